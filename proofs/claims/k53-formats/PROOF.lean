import PyProof.Rows.All
import Wide.All
import OpenK.AllK
import Wide.FinOn
import KE.KStateDown
import HandS.ForMost
import HandS.ForExc
import HandS.ForList
import HandS.Wide
import HandS.TupAny
import HandS.Deep
import HandS.IsInst
import HandS.SortInts
import HandS.Codes
import HandS.Conv
import HandS.Strs
import HandS.RaiseMore
import HandS.Replace
import Wide.Txt
import HandS.Flow
import HandS.Style
import HandS.ExcOwn
import HandS.Iter
import HandS.TryMany
import HandS.WordsExc
import HandS.Defaults
import HandS.Ends
import HandS.More
import HandS.Words
import HandS.HeadEnd
import HandS.HeadHook1
import HandS.HeadHook2
import HandS.SortKw
import KE.DataMinMax
import KE.SortData
import PyProof.SliceStr2
import KE.KRevSl
import HandS.Dict
import HandS.WideBits
import HandS.Flt
import HandS.Rev
import HandS.StrMore
import HandS.TupSets
import HandS.HeadHook3
import HandS.Head0
import HandS.Head1
import HandS.Head2
import PySem.Challenge.RW_everyscan_k53_format_words
set_option Elab.async false
set_option linter.all false
set_option maxRecDepth 100000
set_option maxHeartbeats 0
/-! Ev1: plain values, a small core language, its evaluator. No model in sight. -/
namespace Ev

inductive PV where
  | non | bl (b : Bool) | int (i : Int) | str (s : List Nat)
  | lst (xs : List PV) | tup (xs : List PV) | dic (b : Bool) (ks vs : List PV) | fn (i : Nat) | obj (c : Nat) (fs : List PV)

abbrev Env := List (Option PV)

/-- what an expression gives -/
inductive R (α : Type) where
  | ok (a : α) (env : Env) | ex (c : Nat) (env : Env) | st
/-- what a statement gives -/
inductive O where
  | nx (env : Env) | rt (v : PV) (env : Env) | bk (env : Env) | ct (env : Env) | ex (c : Nat) (env : Env) | st
/-- what a call gives: the answer, the last values of the in-out parameters -/
inductive CR where
  | ok (v : PV) (fin : List PV) | ex (c : Nat) (fin : List PV) | st
abbrev Calls := Nat → List PV → CR

def R.bind {α β : Type} (r : R α) (f : α → Env → R β) : R β := match r with
  | .ok a env => f a env
  | .ex c env => .ex c env
  | .st => .st
def R.then {α : Type} (r : R α) (f : α → Env → O) : O := match r with
  | .ok a env => f a env
  | .ex c env => .ex c env
  | .st => .st
def O.then (r : O) (f : Env → O) : O := match r with
  | .nx env => f env
  | r => r
def R.of {α : Type} (o : Option α) (env : Env) : R α := match o with
  | some a => .ok a env
  | none => .st

/-- the longest list or text -/
abbrev SZ : Nat := 16777216
def FUEL : Nat := 1099511627776

/-! ### operations -/
inductive BO where | add | sub | mul | fdiv | mod | pow | shl | shr | band | bor | bxor
  deriving DecidableEq
inductive CO where | eq | ne | lt | le | gt | ge | is | isn | inn | nin
  deriving DecidableEq
inductive B1 where | len | sum | min | max | abs | sorted | list | tuple | str | int | ord
  deriving DecidableEq
inductive B2 where | min | max
  deriving DecidableEq
inductive M0 where | bitlen
  deriving DecidableEq
inductive M1 where | join | lindex | tindex | sindex | split | scount
  deriving DecidableEq
inductive Ty where | int | bool | str | list | tuple | dict
  deriving DecidableEq

mutual
def PV.dep : PV → Nat
  | .lst xs => PV.deps xs + 1
  | .tup xs => PV.deps xs + 1
  | .non => 0
  | .bl _ => 0
  | .int _ => 0
  | .str _ => 0
  | .dic _ _ _ => 1000
  | .fn _ => 1000
  | .obj _ _ => 1000
def PV.deps : List PV → Nat
  | [] => 0
  | x :: xs => Nat.max (PV.dep x) (PV.deps xs)
end
/- no object that can change within -/
mutual
def PV.lf : PV → Bool
  | .tup xs => PV.lfs xs
  | .non => true
  | .bl _ => true
  | .int _ => true
  | .str _ => true
  | .fn _ => true
  | .lst _ => false
  | .dic _ _ _ => false
  | .obj _ _ => false
def PV.lfs : List PV → Bool
  | [] => true
  | x :: xs => PV.lf x && PV.lfs xs
end
/- Python's == -/
mutual
def PV.eqv : PV → PV → Bool
  | .non, .non => true
  | .bl a, .bl b => a == b
  | .bl a, .int j => (if a then 1 else 0) == j
  | .int i, .bl b => i == (if b then 1 else 0)
  | .int i, .int j => i == j
  | .str x, .str y => x == y
  | .lst xs, .lst ys => PV.eqvs xs ys
  | .tup xs, .tup ys => PV.eqvs xs ys
  | _, _ => false
def PV.eqvs : List PV → List PV → Bool
  | [], [] => true
  | x :: xs, y :: ys => PV.eqv x y && PV.eqvs xs ys
  | _, _ => false
end
def eqD (a b : PV) : Option Bool := if a.dep ≤ 60 ∧ b.dep ≤ 60 then some (PV.eqv a b) else none

def truth : PV → Option Bool
  | .non => some false
  | .bl b => some b
  | .int i => some (i != 0)
  | .str s => some (!s.isEmpty)
  | .lst xs => some (!xs.isEmpty)
  | .tup xs => some (!xs.isEmpty)
  | _ => none

def grd {α : Type} (p : Prop) [Decidable p] (a : α) : Option α := if p then some a else none

def small (i : Int) : Prop := -18446744073709551616 < i ∧ i < 18446744073709551616
instance (i : Int) : Decidable (small i) := by unfold small; infer_instance

/-- the bits of a natural number, joined -/
def bxorI (i j : Int) : Int := ((Nat.xor i.toNat j.toNat : Nat) : Int)
def bandI (i j : Int) : Int := ((Nat.land i.toNat j.toNat : Nat) : Int)
def borI (i j : Int) : Int := ((Nat.lor i.toNat j.toNat : Nat) : Int)

def bop : BO → PV → PV → Option PV
  | .add, .int i, .int j => some (.int (i + j))
  | .add, .str x, .str y => grd (x.length + y.length ≤ SZ) (.str (x ++ y))
  | .add, .lst x, .lst y => grd (x.length + y.length ≤ SZ) (.lst (x ++ y))
  | .add, .tup x, .tup y => grd (x.length + y.length ≤ SZ) (.tup (x ++ y))
  | .sub, .int i, .int j => some (.int (i - j))
  | .mul, .int i, .int j => grd (small i ∨ small j) (.int (i * j))
  | .mul, .lst x, .int k => grd (small k ∧ -(2 ^ 63) ≤ k ∧ k < 2 ^ 63 ∧ x.length * k.toNat ≤ SZ) (.lst (List.replicate k.toNat x).flatten)
  | .mul, .str x, .int k => grd (0 ≤ k ∧ k < 2 ^ 63 ∧ x.length * k.toNat ≤ SZ) (.str (List.replicate k.toNat x).flatten)
  | .fdiv, .int i, .int j => grd (0 < j ∧ j < 18446744073709551616) (.int (i / j))
  | .mod, .int i, .int j => grd (0 < j) (.int (i % j))
  | .pow, .int i, .int j => grd (0 ≤ j ∧ j ≤ 1000000 ∧ small i) (.int (i ^ j.toNat))
  | .shl, .int i, .int j => grd (0 ≤ j ∧ j ≤ 1000000 ∧ small i) (.int (i * 2 ^ j.toNat))
  | .shr, .int i, .int j => grd (0 ≤ j) (.int (i / 2 ^ j.toNat))
  | .band, .int i, .int j => grd (0 ≤ i ∧ 0 ≤ j) (.int (bandI i j))
  | .bor, .int i, .int j => grd (0 ≤ i ∧ 0 ≤ j) (.int (borI i j))
  | .bxor, .int i, .int j => grd (0 ≤ i ∧ 0 ≤ j) (.int (bxorI i j))
  | _, _, _ => none

/-- op= -/
def aop : BO → PV → PV → Option PV
  | .add, .int i, .int j => some (.int (i + j))
  | .sub, .int i, .int j => some (.int (i - j))
  | _, _, _ => none

def ltS : List Nat → List Nat → Bool
  | [], [] => false
  | [], _ :: _ => true
  | _ :: _, [] => false
  | x :: xs, y :: ys => if x = y then ltS xs ys else decide (x < y)

def PV.isNon : PV → Bool
  | .non => true
  | _ => false

def getIs : List PV → Option (List Int)
  | [] => some []
  | .int i :: r => (getIs r).map (i :: ·)
  | _ :: _ => none
/-- one list of numbers ahead of another -/
def ltI : List Int → List Int → Bool
  | [], [] => false
  | [], _ :: _ => true
  | _ :: _, [] => false
  | x :: xs, y :: ys => if x = y then ltI xs ys else decide (x < y)
/-! dicts: keys are numbers and texts (false), or tuples of such (true) -/
def isKey : PV → Bool
  | .int _ => true
  | .str _ => true
  | _ => false
def isKeyB : Bool → PV → Bool
  | false, k => isKey k
  | true, .tup xs => xs.all isKey
  | _, _ => false
def dlook : List PV → List PV → PV → Option PV
  | k :: ks, v :: vs, x => if PV.eqv k x then some v else dlook ks vs x
  | _, _, _ => none
def drepl : List PV → List PV → PV → PV → List PV
  | k :: ks, v :: vs, x, y => (if PV.eqv k x then y else v) :: drepl ks vs x y
  | _, vs, _, _ => vs
def dputK (ks : List PV) (x : PV) : List PV := if ks.any (fun k => PV.eqv k x) then ks else ks ++ [x]
def dputV (ks vs : List PV) (x y : PV) : List PV := if ks.any (fun k => PV.eqv k x) then drepl ks vs x y else vs ++ [y]
def dstoV (x y : PV) : PV → Option PV
  | .dic b ks vs => grd (isKeyB b x = true ∧ ks.length < SZ) (.dic b (dputK ks x) (dputV ks vs x y))
  | _ => none
def dgetD (d x y : PV) : Option PV := match d with
  | .dic b ks vs => grd (isKeyB b x = true) ((dlook ks vs x).getD y)
  | _ => none
def cop : CO → PV → PV → Option Bool
  | .eq, a, b => eqD a b
  | .ne, a, b => (eqD a b).map (!·)
  | .lt, .int i, .int j => some (decide (i < j))
  | .le, .int i, .int j => some (decide (i ≤ j))
  | .gt, .int i, .int j => some (decide (j < i))
  | .ge, .int i, .int j => some (decide (j ≤ i))
  | .lt, .tup x, .tup y => (match getIs x, getIs y with
    | some l, some m => some (ltI l m)
    | _, _ => none)
  | .lt, .str x, .str y => some (ltS x y)
  | .le, .str x, .str y => some (!ltS y x)
  | .gt, .str x, .str y => some (ltS y x)
  | .ge, .str x, .str y => some (!ltS x y)
  | .is, a, .non => some a.isNon
  | .isn, a, .non => some (!a.isNon)
  | .inn, .str [c], .str y => some (decide (c ∈ y))
  | .nin, .str [c], .str y => some (!decide (c ∈ y))
  | .inn, a, .lst ys => if a.dep ≤ 59 ∧ PV.deps ys ≤ 59 then some (ys.any fun y => PV.eqv y a) else none
  | .nin, a, .lst ys => if a.dep ≤ 59 ∧ PV.deps ys ≤ 59 then some (!ys.any fun y => PV.eqv y a) else none
  | .inn, a, .tup ys => if a.dep ≤ 59 ∧ PV.deps ys ≤ 59 then some (ys.any fun y => PV.eqv y a) else none
  | .nin, a, .tup ys => if a.dep ≤ 59 ∧ PV.deps ys ≤ 59 then some (!ys.any fun y => PV.eqv y a) else none
  | .inn, a, .dic b ks vs => if isKeyB b a then some (dlook ks vs a).isSome else none
  | .nin, a, .dic b ks vs => if isKeyB b a then some (!(dlook ks vs a).isSome) else none
  | _, _, _ => none

/-- the item at a place, from the end below 0 -/
def pix {α : Type} (xs : List α) (i : Int) : Option α :=
  if 0 ≤ i then xs[i.toNat]? else if -(xs.length : Int) ≤ i then xs[(i + xs.length).toNat]? else none
def idx : PV → PV → Option PV
  | .lst xs, .int i => pix xs i
  | .tup xs, .int i => pix xs i
  | .str xs, .int i => (pix xs i).map fun c => .str [c]
  | .dic b ks vs, k => if isKeyB b k then dlook ks vs k else none
  | _, _ => none

def idxL : PV → PV → Option PV
  | .lst xs, .int i => pix xs i
  | _, _ => none
def clip (n d : Nat) : Option Int → Nat
  | none => d
  | some i => if i < 0 then (i + n).toNat else min i.toNat n
def cut {α : Type} (xs : List α) (lo hi : Option Int) : List α :=
  (xs.drop (clip xs.length 0 lo)).take (clip xs.length xs.length hi - clip xs.length 0 lo)
def slc : PV → Option Int → Option Int → Option PV
  | .lst xs, lo, hi => some (.lst (cut xs lo hi))
  | .tup xs, lo, hi => some (.tup (cut xs lo hi))
  | .str xs, lo, hi => some (.str (cut xs lo hi))
  | _, _, _ => none
def revv : PV → Option PV
  | .lst xs => some (.lst xs.reverse)
  | _ => none

/-- a list or a text turned round -/
def revB : PV → Option PV
  | .lst xs => some (.lst xs.reverse)
  | .str l => some (.str l.reverse)
  | _ => none
/-- every k-th item -/
def every {α : Type} (k : Nat) (xs : List α) : List α := (List.range ((xs.length + k - 1) / k)).filterMap fun i => xs[k * i]?
def stpV : PV → Option Int → Option PV
  | .lst xs, some k => grd (1 ≤ k) (.lst (every k.toNat xs))
  | .str s, some k => grd (1 ≤ k) (.str (every k.toNat s))
  | _, _ => none
def PV.asInt : PV → Option Int
  | .int i => some i
  | _ => none
def PV.asStr : PV → Option (List Nat)
  | .str s => some s
  | _ => none
def PV.asLst : PV → Option (List PV)
  | .lst s => some s
  | _ => none
def getSs : List PV → Option (List (List Nat))
  | [] => some []
  | .str i :: r => (getSs r).map (i :: ·)
  | _ :: _ => none

def insI (x : Int) : List Int → List Int
  | [] => [x]
  | y :: r => if x ≤ y then x :: y :: r else y :: insI x r
def sortI : List Int → List Int
  | [] => []
  | x :: r => insI x (sortI r)
def insS (x : List Nat) : List (List Nat) → List (List Nat)
  | [] => [x]
  | y :: r => if ltS y x then y :: insS x r else x :: y :: r
def sortS : List (List Nat) → List (List Nat)
  | [] => []
  | x :: r => insS x (sortS r)

/-- a natural number as a text -/
def showN (n : Nat) : List Nat := (Nat.toDigits 10 n).map Char.toNat
def isDig (c : Nat) : Bool := decide (48 ≤ c) && decide (c ≤ 57)
def digV (s : List Nat) : Nat := s.foldl (fun a c => a * 10 + (c - 48)) 0

def maxI : List Int → Int → Int
  | [], m => m
  | x :: r, m => maxI r (if x > m then x else m)
def minI : List Int → Int → Int
  | [], m => m
  | x :: r, m => minI r (if x < m then x else m)

def b1 : B1 → PV → Option PV
  | .len, .lst xs => some (.int xs.length)
  | .len, .tup xs => some (.int xs.length)
  | .len, .str xs => some (.int xs.length)
  | .len, .dic false ks vs => some (.int ks.length)
  | .sum, .lst xs => (getIs xs).map fun l => .int l.sum
  | .min, .lst xs => match getIs xs with
    | some (x :: r) => some (.int (minI r x))
    | _ => none
  | .max, .lst xs => match getIs xs with
    | some (x :: r) => some (.int (maxI r x))
    | _ => none
  | .abs, .int i => some (.int (if i < 0 then -i else i))
  | .sorted, .lst xs => match getIs xs with
    | some l => some (.lst ((sortI l).map .int))
    | none => none
  | .list, .lst xs => some (.lst xs)
  | .list, .tup xs => some (.lst xs)
  | .list, .str s => some (.lst (s.map fun c => .str [c]))
  | .tuple, .lst xs => some (.tup xs)
  | .tuple, .tup xs => some (.tup xs)
  | .str, .int i => grd (0 ≤ i ∧ i < 10 ^ 60) (.str (showN i.toNat))
  | .str, .str s => some (.str s)
  | .int, .int i => some (.int i)
  | .int, .str s => grd (s ≠ [] ∧ s.length ≤ 600 ∧ s.all isDig = true) (.int (digV s))
  | .ord, .str [c] => some (.int c)
  | _, _ => none
def b2 : B2 → PV → PV → Option PV
  | .min, .int i, .int j => some (.int (if j < i then j else i))
  | .max, .int i, .int j => some (.int (if j > i then j else i))
  | _, _, _ => none

/- the two can be compared, place by place -/
mutual
def PV.alk : PV → PV → Bool
  | .non, .non => true
  | .bl _, .bl _ => true
  | .int _, .int _ => true
  | .str _, .str _ => true
  | .lst xs, .lst ys => PV.alks xs ys
  | .tup xs, .tup ys => PV.alks xs ys
  | _, _ => false
def PV.alks : List PV → List PV → Bool
  | x :: xs, y :: ys => PV.alk x y && PV.alks xs ys
  | _, _ => true
end
/- x < y of such -/
mutual
def PV.ltv : PV → PV → Bool
  | .bl a, .bl b => !a && b
  | .int i, .int j => decide (i < j)
  | .str x, .str y => ltS x y
  | .lst xs, .lst ys => PV.ltvs xs ys
  | .tup xs, .tup ys => PV.ltvs xs ys
  | _, _ => false
def PV.ltvs : List PV → List PV → Bool
  | [], [] => false
  | [], _ :: _ => true
  | _ :: _, [] => false
  | x :: xs, y :: ys => if PV.eqv x y then PV.ltvs xs ys else PV.ltv x y
end
def alkAll (xs : List PV) : Bool := xs.all fun x => !x.isNon && xs.all fun y => PV.alk x y
def minV (x : PV) (xs : List PV) : PV := xs.foldl (fun a y => if PV.ltv y a then y else a) x
def PV.isLst : PV → Bool
  | .lst _ => true
  | _ => false
def xminV : PV → Option PV
  | .lst (x :: xs) => grd (alkAll (x :: xs) = true ∧ PV.deps (x :: xs) ≤ 59 ∧ (minV x xs).isLst = false) (minV x xs)
  | _ => none
def PV.isTupN : PV → Bool
  | .tup (_ :: _) => true
  | _ => false
def PV.notTup : PV → Bool
  | .tup _ => false
  | _ => true
/-- b is not ahead of a -/
def leV (a b : PV) : Bool := !PV.ltv b a
def srtV : PV → Option PV
  | .lst xs => grd (alkAll xs = true ∧ PV.deps xs ≤ 59 ∧ (xs.all PV.isTupN || xs.all PV.notTup) = true) (.lst (xs.mergeSort leV))
  | _ => none
/-- the first place from lo on at which t stands in s, or -1 -/
def fndS (s t : List Nat) (lo : Nat) : Int := match (List.range' lo (s.length + 1 - lo)).find? fun i => decide (i + t.length ≤ s.length) && ((s.drop i).take t.length == t) with
  | some i => (i : Nat)
  | none => -1
def ddStep (σ : List Int) (k : Int) : List Int := if σ.any (· == k) then σ else σ ++ [k]
def lsetV : PV → Option PV
  | .lst xs => match getIs xs with
    | some l => grd (l.length < 64) (.int ((l.foldl ddStep []).length : Nat))
    | none => none
  | _ => none
def fndV : PV → PV → Option Int → Option PV
  | .str s, .str t, none => some (.int (fndS s t 0))
  | .str s, .str t, some k => grd (0 ≤ k) (.int (fndS s t k.toNat))
  | _, _, _ => none
def sortRv : PV → Option PV
  | .lst xs => (getIs xs).map fun l => .lst ((sortI l).reverse.map .int)
  | _ => none

def natBits (fuel n : Nat) : Nat := match fuel with
  | 0 => 0
  | f + 1 => if n = 0 then 0 else natBits f (n / 2) + 1
def m0 : M0 → PV → Option PV
  | .bitlen, .int i => grd (i.natAbs < 2 ^ 4000) (.int (natBits 4000 i.natAbs))
  | _, _ => none

def joinS (sep : List Nat) : List (List Nat) → List Nat
  | [] => []
  | [x] => x
  | x :: y :: r => x ++ sep ++ joinS sep (y :: r)
def findIx (a : PV) : List PV → Nat → Option Nat
  | [], _ => none
  | y :: r, k => if PV.eqv y a then some k else findIx a r (k + 1)
/-- the first place of a sign -/
def findC (c : Nat) : List Nat → Nat → Option Nat
  | [], _ => none
  | y :: r, k => if y = c then some k else findC c r (k + 1)
def splitC (c : Nat) : List Nat → List Nat → List (List Nat)
  | [], acc => [acc]
  | y :: r, acc => if y = c then acc :: splitC c r [] else splitC c r (acc ++ [y])
def m1 : M1 → PV → PV → Option PV
  | .join, .str s, .lst xs => match getSs xs with
    | some l => grd ((l.map (·.length)).sum + l.length * s.length ≤ SZ) (.str (joinS s l))
    | none => none
  | .lindex, .lst xs, a => if a.dep ≤ 59 ∧ PV.deps xs ≤ 59 then (findIx a xs 0).map fun k => .int (k : Nat) else none
  | .tindex, .tup xs, a => if a.dep ≤ 59 ∧ PV.deps xs ≤ 59 then (findIx a xs 0).map fun k => .int (k : Nat) else none
  | .sindex, .str s, .str [c] => (findC c s 0).map fun k => .int (k : Nat)
  | .split, .str s, .str [c] => grd (s.length + 2 ≤ SZ ∧ c < 256) (.lst ((splitC c s []).map .str))
  | .scount, .str s, .str [c] => grd (c < 256) (.int (s.count c : Nat))
  | _, _, _ => none

def isTy : Ty → PV → Bool
  | .int, .int _ => true
  | .int, .bl _ => true
  | .bool, .bl _ => true
  | .str, .str _ => true
  | .list, .lst _ => true
  | .tuple, .tup _ => true
  | .dict, .dic _ _ _ => true
  | _, _ => false

def m1Ty : M1 → PV → Bool
  | .join, .str _ => true
  | .lindex, .lst _ => true
  | .tindex, .tup _ => true
  | .sindex, .str _ => true
  | .split, .str _ => true
  | .scount, .str _ => true
  | _, _ => false
def hasKind : PV → Bool
  | .non => true
  | .bl _ => true
  | .int _ => true
  | .str _ => true
  | .lst _ => true
  | .tup _ => true
  | _ => false

/-! ### the core language -/
/-- a target: a slot, a tuple of slots -/
inductive TG where | nm (i : Nat) | tp (is : List Nat)
  deriving DecidableEq

mutual
inductive CE where
  | non | bl (b : Bool) | int (i : Int) | str (s : List Nat)
  /-- a slot; one that is lent (its list goes on being the slot's own); one that is given away; one for an in-out parameter -/
  | var (i : Nat) | bv (i : Nat) | mv (i : Nat) | io (i : Nat)
  /-- a name of the module, by its place in the table -/
  | gl (n : Nat) (v : PV)
  | bin (op : BO) (a b : CE) | neg (a : CE) | nt (a : CE) | an (a b : CE) | or (a b : CE)
  | cmp (op : CO) (a b : CE) | chn (o1 o2 : CO) (a b c : CE) | ite (c a b : CE)
  /-- a list whose items are owned to the depth d -/
  | lst (d : Nat) (es : List CE) | tup (es : List CE)
  | idx (a b : CE) | sl (a : CE) (lo hi : Option CE) | rev (a : CE)
  | call (f : Nat) (as : List CE) | call0 (f : Nat) | callv (fs : List Nat) (fe : CE) (as : List CE)
  | b1 (b : B1) (a : CE) | b2 (b : B2) (a c : CE) | isi (a : CE) (t : Ty)
  | m0 (m : M0) (a : CE) | m1 (m : M1) (a b : CE)
  | lrg (it : CI)
  | cp (d : Nat) (own : List Nat) (tg : TG) (it : CI) (ifs : Option CE) (e : CE)
  | cp2 (d : Nat) (own : List Nat) (tg : TG) (it : CI) (ifs : Option CE) (tg1 : TG) (it1 : CI) (ifs1 : Option CE) (e : CE)
  | pop (i : Nat)
  /-- sorted(.., reverse=True) of numbers; min of things that are alike -/
  | sortR (a : CE) | xmin (a : CE)
  /-- what a displayed dict of texts and numbers holds at a text -/
  | dsel (kvs : List (List Nat × Int)) (a : CE)
  /-- x[::k] -/
  | stp (a : CE) (k : Option CE)
  /-- sorted(things that are alike); text.find(text) from a place on -/
  | srt (a : CE) | fnd (a b : CE) (c : Option CE)
  /-- {}; d.get(k, x) -/
  | dnew (b : Bool) | dgt (a k x : CE)
  /-- len(set(a list of numbers)) -/
  | lset (a : CE)
/-- what a for walks -/
inductive CI where
  | of (k : Nat) (e : CE) | r1 (a : CE) | r2 (a b : CE) | r3 (a b : CE) (c : Int) | r4 (a b c : CE)
end

inductive CS where
  | ex (e : CE)
  | set (i : Nat) (e : CE)
  | setT (is : List Nat) (e : CE)
  | par (is : List Nat) (es : List CE)
  | sto (i : Nat) (p : List CE) (e : CE)
  | sto2 (i : Nat) (k l : CE) (e : CE)
  | dsto (i : Nat) (k e : CE)
  | app1 (i : Nat) (k : CE) (e : CE)
  | aug2 (i : Nat) (k l : CE) (op : BO) (e : CE)
  | app (i : Nat) (p : List CE) (e : CE)
  | ext (i : Nat) (e : CE) | rvs (i : Nat)
  | aug (i : Nat) (op : BO) (e : CE)
  | augS (i : Nat) (p : CE) (op : BO) (e : CE)
  | ret (e : CE) | retN
  | ite (c : CE) (a b : List CS)
  | whl (c : CE) (b : List CS)
  | fr (tg : TG) (it : CI) (b : List CS)
  | raise (c : Nat)
  | try (b : List CS) (hs : List (List Nat × List Nat × List CS))
  | pass | brk | cnt

/-! ### the evaluator -/
def getV (env : Env) (i : Nat) : Option PV := match env[i]? with
  | some (some v) => some v
  | _ => none
/-- the slots that a target names -/
def tgs : TG → List Nat
  | .nm i => [i]
  | .tp is => is
def wipeE (env : Env) : List Nat → Env
  | [] => env
  | i :: r => (wipeE env r).set i none
def backE (old env : Env) : List Nat → Env
  | [] => env
  | i :: r => (backE old env r).set i (match old[i]? with
    | some o => o
    | none => none)
def setMany : List Nat → List PV → Env → Option Env
  | [], [], env => some env
  | i :: r, v :: vs, env => setMany r vs (env.set i (some v))
  | _, _, _ => none
def setTG (tg : TG) (v : PV) (env : Env) : Option Env := match tg with
  | .nm i => some (env.set i (some v))
  | .tp is => match v with
    | .tup vs => setMany is vs env
    | .lst vs => setMany is vs env
    | _ => none
def rangeI (lo : Int) (step : Int) : Nat → List PV
  | 0 => []
  | n + 1 => .int lo :: rangeI (lo + step) step n
def rcount (a b c : Int) : Nat := (if c > 0 then if a < b then (b - a - 1) / c + 1 else 0 else if a > b then (a - b - 1) / -c + 1 else 0).toNat
def inR (i : Int) : Prop := -4611686018427387904 ≤ i ∧ i < 4611686018427387904
instance (i : Int) : Decidable (inR i) := by unfold inR; infer_instance
/-- the items that a walk goes over: of a list, a tuple, a text -/
def PV.items : Nat → PV → Option (List PV)
  | 0, .lst xs => some xs
  | 1, .tup xs => some xs
  | 2, .str s => some (s.map fun c => .str [c])
  | 3, .obj _ xs => some xs
  | _, _ => none

/-- the items that a comprehension makes -/
def compL (f : PV → Env → R (Option PV)) : List PV → Env → R (List PV)
  | [], env => .ok [] env
  | x :: xs, env => (f x env).bind fun o env1 => (compL f xs env1).bind fun r env2 => .ok (match o with
    | some v => v :: r
    | none => r) env2
/-- the same with a list for each turn -/
def compL2 (f : PV → Env → R (List PV)) : List PV → Env → R (List PV)
  | [], env => .ok [] env
  | x :: xs, env => (f x env).bind fun o env1 => (compL2 f xs env1).bind fun r env2 => .ok (o ++ r) env2
def forL (f : PV → Env → O) : List PV → Env → O
  | [], env => .nx env
  | x :: xs, env => match f x env with
    | .nx e => forL f xs e
    | .ct e => forL f xs e
    | .bk e => .nx e
    | .rt v e => .rt v e
    | .ex c e => .ex c e
    | .st => .st
def whileN (c : Env → R Bool) (b : Env → O) : Nat → Env → O
  | 0, _ => .st
  | n + 1, env => match c env with
    | .ok true e1 => (match b e1 with
      | .nx e => whileN c b n e
      | .ct e => whileN c b n e
      | .bk e => .nx e
      | .rt v e => .rt v e
      | .ex x e => .ex x e
      | .st => .st)
    | .ok false e1 => .nx e1
    | .ex x e => .ex x e
    | .st => .st

inductive AV where | v (pv : PV) | io (i : Nat) | bv (i : Nat)
def AV.get (env : Env) : AV → Option PV
  | .v p => some p
  | .io i => getV env i
  | .bv i => getV env i
def avs (env : Env) : List AV → Option (List PV)
  | [] => some []
  | a :: r => match a.get env, avs env r with
    | some x, some xs => some (x :: xs)
    | _, _ => none
/-- the in-out arguments' last values put back -/
def putB : List AV → List PV → Env → Option Env
  | [], [], env => some env
  | .io i :: r, v :: vs, env => putB r vs (env.set i (some v))
  | .v _ :: r, vs, env => putB r vs env
  | .bv _ :: r, vs, env => putB r vs env
  | _, _, _ => none
def hasB : List AV → Bool
  | [] => false
  | .bv _ :: _ => true
  | _ :: r => hasB r
def doCall (C : Calls) (f : Nat) (as : List AV) (env : Env) : R PV := match avs env as with
  | none => .st
  | some vs => match C f vs with
    | .ok v fin => (match putB as fin env with
      | some env' => if hasB as && !v.lf then .st else .ok v env'
      | none => .st)
    | .ex c fin => (match putB as fin env with
      | some env' => .ex c env'
      | none => .st)
    | .st => .st

/-- xs[i] made v -/
def setAt (xs : List PV) (i : Int) (v : PV) : Option (List PV) :=
  if 0 ≤ i then (if i < xs.length then some (xs.set i.toNat v) else none) else if -(xs.length : Int) ≤ i then some (xs.set (i + xs.length).toNat v) else none
/-- the place at the end of a path is changed -/
def onPath (f : PV → Option PV) : List PV → PV → Option PV
  | [], x => f x
  | .int i :: r, .lst xs => match pix xs i with
    | some y => (match onPath f r y with
      | some z => (setAt xs i z).map .lst
      | none => none)
    | none => none
  | _, _ => none
def atPath : List PV → PV → Option PV
  | [], x => some x
  | i :: r, x => match idx x i with
    | some y => atPath r y
    | none => none
def storeV (i v : PV) (x : PV) : Option PV := match x, i with
  | .lst xs, .int k => (setAt xs k v).map .lst
  | _, _ => none
def appV (v : PV) (x : PV) : Option PV := match x with
  | .lst xs => grd (xs.length < SZ) (.lst (xs ++ [v]))
  | _ => none
def extV (v : PV) (x : PV) : Option PV := match x, v with
  | .lst xs, .lst ys => grd (xs.length + ys.length ≤ SZ) (.lst (xs ++ ys))
  | _, _ => none
def onSlot (i : Nat) (f : PV → Option PV) (env : Env) : O := match getV env i with
  | some x => (match f x with
    | some y => .nx (env.set i (some y))
    | none => .st)
  | none => .st

/-- within a comprehension nothing may be raised -/
def noX {α : Type} (r : R α) : R α := match r with
  | .ex _ _ => .st
  | r => r

def noXO (r : O) : O := match r with
  | .ex _ _ => .st
  | r => r
/-- the truth of what an expression gives -/
def tst (r : R PV) : R Bool := r.bind fun x e => R.of (truth x) e

/-- the last value of a text -/
def dselV (kvs : List (List Nat × Int)) (x : PV) : Option PV := match x with
  | .str s => (kvs.foldl (fun a p => if s = p.1 then some p.2 else a) none).map .int
  | _ => none
mutual
def evE (C : Calls) : CE → Env → R PV
  | .non, env => .ok .non env
  | .bl b, env => .ok (.bl b) env
  | .int i, env => .ok (.int i) env
  | .str s, env => .ok (.str s) env
  | .var i, env => R.of (getV env i) env
  | .bv i, env => R.of (getV env i) env
  | .mv i, env => match getV env i with
    | some v => .ok v (env.set i none)
    | none => .st
  | .io _, _ => .st
  | .gl _ v, env => .ok v env
  | .bin op a b, env => (evE C a env).bind fun x e1 => (evE C b e1).bind fun y e2 => R.of (bop op x y) e2
  | .neg a, env => (evE C a env).bind fun x e1 => R.of (match x with
    | .int i => some (.int (-i))
    | _ => none) e1
  | .nt a, env => (tst (evE C a env)).bind fun b e1 => .ok (.bl (!b)) e1
  | .an a b, env => (evE C a env).bind fun x e1 => match truth x with
    | some true => evE C b e1
    | some false => .ok x e1
    | none => .st
  | .or a b, env => (evE C a env).bind fun x e1 => match truth x with
    | some true => .ok x e1
    | some false => evE C b e1
    | none => .st
  | .cmp op a b, env => (evE C a env).bind fun x e1 => (evE C b e1).bind fun y e2 => R.of ((cop op x y).map .bl) e2
  | .chn o1 o2 a b c, env => (evE C a env).bind fun x e1 => (evE C b e1).bind fun y e2 => match cop o1 x y with
    | some true => (evE C c e2).bind fun z e3 => R.of ((cop o2 y z).map .bl) e3
    | some false => .ok (.bl false) e2
    | none => .st
  | .ite c a b, env => (tst (evE C c env)).bind fun t e1 => if t then evE C a e1 else evE C b e1
  | .lst _ es, env => (evEs C es env).bind fun vs e1 => .ok (.lst vs) e1
  | .tup es, env => (evEs C es env).bind fun vs e1 => .ok (.tup vs) e1
  | .idx a b, env => (evE C a env).bind fun x e1 => (evE C b e1).bind fun y e2 => R.of (idx x y) e2
  | .sl a lo hi, env => (evE C a env).bind fun x e1 => (evO C lo e1).bind fun l e2 => (evO C hi e2).bind fun h e3 => R.of (slc x l h) e3
  | .rev a, env => (evE C a env).bind fun x e1 => R.of (revB x) e1
  | .call f as, env => (evA C as env).bind fun as' e1 => doCall C f as' e1
  | .call0 f, env => noX (doCall C f [] env)
  | .callv fs fe as, env => (evE C fe env).bind fun v e1 => match v with
    | .fn i => if fs.contains i then (evA C as e1).bind fun as' e2 => doCall C i as' e2 else .st
    | _ => .st
  | .b1 b a, env => (evE C a env).bind fun x e1 => R.of (b1 b x) e1
  | .b2 b a c, env => (evE C a env).bind fun x e1 => (evE C c e1).bind fun y e2 => R.of (b2 b x y) e2
  | .isi a t, env => (evE C a env).bind fun x e1 => if hasKind x then .ok (.bl (isTy t x)) e1 else .st
  | .m0 m a, env => (evE C a env).bind fun x e1 => R.of (m0 m x) e1
  | .m1 m a b, env => (evE C a env).bind fun x e1 => if m1Ty m x then (evE C b e1).bind fun y e2 => R.of (m1 m x y) e2 else .st
  | .lrg it, env => (evI C it env).bind fun xs e1 => if xs.length ≤ SZ then .ok (.lst xs) e1 else .st
  | .cp _ own tg it ifs e, env => (evI C it env).bind fun xs e1 =>
    (noX (compL (fun x e2 => match setTG tg x (wipeE e2 own) with
      | some e3 => (evC C ifs e3).bind fun t e4 => if t then (evE C e e4).bind fun v e5 => .ok (some v) e5 else .ok none e4
      | none => .st) xs e1)).bind fun vs e6 => if vs.length ≤ SZ then .ok (.lst vs) (backE e1 e6 own) else .st
  | .cp2 _ own tg it ifs tg1 it1 ifs1 e, env => (evI C it env).bind fun xs e1 =>
    (noX (compL2 (fun x e2 => match setTG tg x (wipeE e2 own) with
      | some e3 => (evC C ifs e3).bind fun t e4 => if t then (evI C it1 e4).bind fun ys e5 => compL (fun y e6 => match setTG tg1 y (wipeE e6 (tgs tg1)) with
          | some e7 => (evC C ifs1 e7).bind fun t1 e8 => if t1 then (evE C e e8).bind fun v e9 => .ok (some v) e9 else .ok none e8
          | none => .st) ys e5 else .ok [] e4
      | none => .st) xs e1)).bind fun vs e6 => if vs.length ≤ SZ then .ok (.lst vs) (backE e1 e6 own) else .st
  | .pop i, env => match getV env i with
    | some (.lst xs) => (match xs[xs.length - 1]? with
      | some v => .ok v (env.set i (some (.lst xs.dropLast)))
      | none => .st)
    | _ => .st
  | .sortR a, env => (evE C a env).bind fun x e1 => R.of (sortRv x) e1
  | .xmin a, env => (evE C a env).bind fun x e1 => R.of (xminV x) e1
  | .dsel kvs a, env => (evE C a env).bind fun x e1 => R.of (dselV kvs x) e1
  | .srt a, env => (evE C a env).bind fun x e1 => R.of (srtV x) e1
  | .fnd a b c, env => (evE C a env).bind fun x e1 => match x with
    | .str _ => (evE C b e1).bind fun y e2 => (evO C c e2).bind fun o e3 => R.of (fndV x y o) e3
    | _ => .st
  | .dnew b, env => .ok (.dic b [] []) env
  | .lset a, env => (evE C a env).bind fun x e1 => R.of (lsetV x) e1
  | .dgt a k x, env => (evE C a env).bind fun d e1 => match d with
    | .dic _ _ _ => (evE C k e1).bind fun y e2 => (evE C x e2).bind fun z e3 => R.of (dgetD d y z) e3
    | _ => .st
  | .stp a k, env => (evE C a env).bind fun x e1 => (evO C k e1).bind fun o e2 => R.of (stpV x o) e2
def evEs (C : Calls) : List CE → Env → R (List PV)
  | [], env => .ok [] env
  | e :: es, env => (evE C e env).bind fun v e1 => (evEs C es e1).bind fun vs e2 => .ok (v :: vs) e2
def evA (C : Calls) : List CE → Env → R (List AV)
  | [], env => .ok [] env
  | .io i :: es, env => (R.of (getV env i) env).bind fun _ e1 => (evA C es e1).bind fun vs e2 => .ok (.io i :: vs) e2
  | .bv i :: es, env => (evA C es env).bind fun vs e2 => .ok (.bv i :: vs) e2
  | e :: es, env => (evE C e env).bind fun v e1 => (evA C es e1).bind fun vs e2 => .ok (.v v :: vs) e2
def evO (C : Calls) : Option CE → Env → R (Option Int)
  | none, env => .ok none env
  | some e, env => (evE C e env).bind fun v e1 => match v with
    | .int i => .ok (some i) e1
    | _ => .st
def evC (C : Calls) : Option CE → Env → R Bool
  | none, env => .ok true env
  | some e, env => tst (evE C e env)
def evI (C : Calls) : CI → Env → R (List PV)
  | .of k e, env => (evE C e env).bind fun v e1 => R.of (v.items k) e1
  | .r1 a, env => (evE C a env).bind fun v e1 => match v with
    | .int n => if inR n then .ok (rangeI 0 1 n.toNat) e1 else .st
    | _ => .st
  | .r2 a b, env => (evE C a env).bind fun v e1 => (evE C b e1).bind fun u e2 => match v, u with
    | .int i, .int j => if inR i ∧ inR j then .ok (rangeI i 1 (j - i).toNat) e2 else .st
    | _, _ => .st
  | .r3 a b c, env => (evE C a env).bind fun v e1 => (evE C b e1).bind fun u e2 => match v, u with
    | .int i, .int j => if (inR i ∧ inR j) ∧ c ≠ 0 ∧ -1000000 < c ∧ c < 1000000 then .ok (rangeI i c (rcount i j c)) e2 else .st
    | _, _ => .st
  | .r4 a b c, env => (evE C a env).bind fun v e1 => (evE C b e1).bind fun u e2 => (evE C c e2).bind fun w e3 => match v, u, w with
    | .int i, .int j, .int k => if (inR i ∧ inR j) ∧ k ≠ 0 ∧ -1000000 < k ∧ k < 1000000 then .ok (rangeI i k (rcount i j k)) e3 else .st
    | _, _, _ => .st
end
abbrev evT (C : Calls) (e : CE) (env : Env) : R Bool := tst (evE C e env)

mutual
def exS (C : Calls) : CS → Env → O
  | .ex e, env => (evE C e env).then fun _ e1 => .nx e1
  | .set i e, env => (evE C e env).then fun v e1 => .nx (e1.set i (some v))
  | .setT is e, env => (evE C e env).then fun v e1 => match setTG (.tp is) v e1 with
    | some e2 => .nx e2
    | none => .st
  | .par is es, env => (evEs C es env).then fun vs e1 => match setMany is vs e1 with
    | some e2 => .nx e2
    | none => .st
  | .sto i p e, env => (evE C e env).then fun v e1 => match getV e1 i with
    | some _ => (evEs C p e1).then fun q e2 => (match q.reverse with
      | k :: r => onSlot i (onPath (storeV k v) r.reverse) e2
      | [] => .st)
    | none => .st
  | .dsto i k e, env => (evE C e env).then fun v e1 => match getV e1 i with
    | some _ => (evE C k e1).then fun kv e2 => onSlot i (dstoV kv v) e2
    | none => .st
  | .sto2 i k l e, env => (evE C e env).then fun v e1 => match getV e1 i with
    | some _ => (evE C k e1).then fun kv e2 => (match getV e2 i with
      | some x => (match idxL x kv with
        | some (.lst _) => (evE C l e2).then fun lv e3 => onSlot i (onPath (storeV lv v) [kv]) e3
        | _ => .st)
      | none => .st)
    | none => .st
  | .app1 i k e, env => match getV env i with
    | some _ => (evE C k env).then fun kv e1 => (match getV e1 i with
      | some x => (match idxL x kv with
        | some (.lst _) => (evE C e e1).then fun v e2 => onSlot i (onPath (appV v) [kv]) e2
        | _ => .st)
      | none => .st)
    | none => .st
  | .aug2 i k l op e, env => match getV env i with
    | some _ => (evE C k env).then fun kv e1 => (match getV e1 i with
      | some x => (match idxL x kv with
        | some (.lst _) => (evE C l e1).then fun lv e2 => (match getV e2 i with
          | some x2 => (match (idxL x2 kv).bind fun r => idx r lv with
            | some y => (evE C e e2).then fun v e3 => (match aop op y v with
              | some z => onSlot i (onPath (storeV lv z) [kv]) e3
              | none => .st)
            | none => .st)
          | none => .st)
        | _ => .st)
      | none => .st)
    | none => .st
  | .app i p e, env => (evEs C p env).then fun q e1 => match getV e1 i with
    | some x => (match atPath q x with
      | some (.lst _) => (evE C e e1).then fun v e2 => onSlot i (onPath (appV v) q) e2
      | _ => .st)
    | none => .st
  | .ext i e, env => match getV env i with
    | some (.lst _) => (evE C e env).then fun v e1 => onSlot i (extV v) e1
    | _ => .st
  | .rvs i, env => onSlot i revv env
  | .aug i op e, env => match getV env i with
    | some x => (evE C e env).then fun v e1 => match aop op x v with
      | some y => .nx (e1.set i (some y))
      | none => .st
    | none => .st
  | .augS i p op e, env => match getV env i with
    | some _ => (evE C p env).then fun k e1 => (match getV e1 i with
      | some x => (match idxL x k with
        | some y => (evE C e e1).then fun v e2 => (match aop op y v with
          | some z => onSlot i (storeV k z) e2
          | none => .st)
        | none => .st)
      | none => .st)
    | none => .st
  | .ret e, env => (evE C e env).then fun v e1 => .rt v e1
  | .retN, env => .rt .non env
  | .ite c a b, env => (evT C c env).then fun t e1 => if t then exSs C a e1 else exSs C b e1
  | .whl c b, env => whileN (fun e1 => evT C c e1) (fun e1 => exSs C b e1) FUEL env
  | .fr tg it b, env => (evI C it env).then fun xs e1 => forL (fun x e2 => match setTG tg x e2 with
    | some e3 => exSs C b e3
    | none => .st) xs e1
  | .raise c, env => .ex c env
  | .try b hs, env => match exSs C b env with
    | .ex c e1 => exHs C c hs e1
    | r => r
  | .pass, env => .nx env
  | .brk, env => .bk env
  | .cnt, env => .ct env
def exSs (C : Calls) : List CS → Env → O
  | [], env => .nx env
  | s :: r, env => (exS C s env).then fun e1 => exSs C r e1
/- the handler that takes the error c: each handler tells the classes that it takes, and those that it does not take -/
def exHs (C : Calls) (c : Nat) : List (List Nat × List Nat × List CS) → Env → O
  | [], env => .ex c env
  | (cs, ns, b) :: r, env => if cs.contains c then noXO (exSs C b env) else if ns.contains c then exHs C c r env else .st
end

/-- a def: its parameters, its slots, which slots are owned and how deep, which parameters are in-out, how deep its answer is owned, its body -/
structure FD where
  np : Nat
  ns : Nat
  ms : List Nat := []
  io : List Nat := []
  rm : Nat := 0
  body : List CS
def fins (env : Env) : List Nat → Option (List PV)
  | [] => some []
  | i :: r => match getV env i, fins env r with
    | some x, some xs => some (x :: xs)
    | _, _ => none
def runF (fd : FD) (C : Calls) (vs : List PV) : CR :=
  if vs.length = fd.np then match exSs C fd.body (vs.map some ++ List.replicate (fd.ns - fd.np) none) with
    | .nx env => (match fins env fd.io with
      | some fs => .ok .non fs
      | none => .st)
    | .rt v env => (match fins env fd.io with
      | some fs => .ok v fs
      | none => .st)
    | .ex c env => (match fins env fd.io with
      | some fs => .ex c fs
      | none => .st)
    | _ => .st
  else .st
def callF (T : List FD) : Nat → Calls
  | 0, _, _ => .st
  | k + 1, f, vs => match T[f]? with
    | some fd => runF fd (callF T k) vs
    | none => .st
end Ev

/-! Ev2: how plain values stand in the heap. -/
namespace Ev
open PySem PySem.Spec PyProof.Rows L2

abbrev S (l : List Nat) : Str := ⟨l.toArray⟩
def okS (l : List Nat) : Prop := l.length ≤ 16777216 ∧ ∀ c ∈ l, c < 1114112
/-- a list that is to be read: tracked, frozen, or written by the top -/
def LsA (K : PySem.W.Frag) (G : Hp) (a : Addr) (xs : List V) : Prop :=
  Rd G a (.lst xs) ∨ ∃ (its : Array Value) (n : Nat), K.lookup a = some { cls := .type "list", data := .seq its n } ∧ its.size ≤ sizeLine ∧ Vals xs its.toList
theorem LsA.sq {K : PySem.W.Frag} {G : Hp} {a : Addr} {xs : List V} (h : LsA K G a xs) : SqL K G a xs := by
  rcases h with h | ⟨its, n, e, z, r⟩
  · exact .inl h
  · exact .inr ⟨_, its, n, e, rfl, rfl, rfl, z, r⟩
theorem LsA.of {K : PySem.W.Frag} {G : Hp} {a : Addr} {xs : List V} (h : G a = some (.lst xs)) : LsA K G a xs := .inl (.inl h)

/-- the written part, where the defs stand -/
structure Dm where
  K : PySem.W.Frag
  fa : Nat → Addr
  xa : Nat → Addr
  /-- tuples are keys of dicts: then all that are spoken of are made by the program's run -/
  kt : Bool

/-- a tuple that is known; where tuples are keys, one that the run made -/
def SqC (D : Dm) (G : Hp) (a : Addr) (xs : List V) : Prop := G a = some (.tup xs) ∨ (D.kt = false ∧ SqT D.K G a xs)
theorem SqC.of {D : Dm} {G : Hp} {a : Addr} {xs : List V} (h : G a = some (.tup xs)) : SqC D G a xs := .inl h
theorem SqC.sq {D : Dm} {G : Hp} {a : Addr} {xs : List V} (h : SqC D G a xs) : SqT D.K G a xs := by
  rcases h with h | ⟨_, h⟩
  · exact SqT.of h
  · exact h
/-- keys of dicts -/
def keyR : PV → L2.Key → Prop
  | .int i, k => k = .inl i
  | .str s, k => okS s ∧ k = .inr (S s)
  | _, _ => False
def keysR : List PV → List L2.Key → Prop
  | [], l => l = []
  | x :: xs, l => ∃ k r, l = k :: r ∧ keyR x k ∧ keysR xs r
def tkR : PV → List L2.Key → Prop
  | .tup xs, l => keysR xs l
  | _, _ => False
def tksR : List PV → List (List L2.Key) → Prop
  | [], l => l = []
  | x :: xs, l => ∃ k r, l = k :: r ∧ tkR x k ∧ tksR xs r
/-- the dict at a: its keys, its values -/
def DcA (D : Dm) (H : Hp) (a : Addr) (b : Bool) (ks : List PV) (us : List V) : Prop := match b with
  | false => ∃ kk : List (L2.Key × V), H a = some (.dK kk) ∧ keysR ks (kk.map (·.1)) ∧ us = kk.map (·.2)
  | true => D.kt = true ∧ ∃ kk : List (List L2.Key × V), H a = some (.dT kk) ∧ tksR ks (kk.map (·.1)) ∧ us = kk.map (·.2)
theorem DcA.move {D : Dm} {H H' : Hp} {a : Addr} {b : Bool} {ks : List PV} {us : List V} (m : ∀ o, H a = some o → H' a = some o) (h : DcA D H a b ks us) : DcA D H' a b ks us := by
  cases b with
  | false =>
    obtain ⟨kk, h1, h2⟩ := h
    exact ⟨kk, m _ h1, h2⟩
  | true =>
    obtain ⟨h0, kk, h1, h2⟩ := h
    exact ⟨h0, kk, m _ h1, h2⟩
theorem DcA.has {D : Dm} {H : Hp} {a : Addr} {b : Bool} {ks : List PV} {us : List V} (h : DcA D H a b ks us) : ∃ o, H a = some o := by
  cases b with
  | false => obtain ⟨kk, h1, h2⟩ := h; exact ⟨_, h1⟩
  | true => obtain ⟨h0, kk, h1, h2⟩ := h; exact ⟨_, h1⟩

section
variable (D : Dm) (G : Hp)
mutual
def RepV : PV → V → Prop
  | .non, v => v = .non
  | .bl b, v => v = .bl b
  | .int i, v => v = .int i
  | .str s, v => okS s ∧ v = .str (S s)
  | .lst xs, v => ∃ a vs, v = .ref a ∧ LsA D.K G a vs ∧ RepVs xs vs
  | .tup xs, v => ∃ a vs, v = .ref a ∧ SqC D G a vs ∧ RepVs xs vs
  | .dic b ks xs, v => ∃ a us, v = .ref a ∧ DcA D G a b ks us ∧ RepVs xs us
  | .fn i, v => v = .ref (D.fa i)
  | .obj _ xs, v => ∃ a vs, v = .ref a ∧ SqL D.K G a vs ∧ RepVs xs vs
def RepVs : List PV → List V → Prop
  | [], vs => vs = []
  | x :: xs, vs => ∃ v r, vs = v :: r ∧ RepV x v ∧ RepVs xs r
end
end

theorem sqL_mono {K : PySem.W.Frag} {G G' : Hp} {a : Addr} {xs : List V} (m : ∀ b o, G b = some o → G' b = some o) (h : LsA K G a xs) : LsA K G' a xs := by
  rcases h with h | h
  · rcases h with h | ⟨o, h⟩
    · exact .inl (.inl (m _ _ h))
    · exact .inl (.inr ⟨o, m _ _ h⟩)
  · exact .inr h
theorem sq0_mono {K : PySem.W.Frag} {G G' : Hp} {a : Addr} {xs : List V} (m : ∀ b o, G b = some o → G' b = some o) (h : SqL K G a xs) : SqL K G' a xs := by
  rcases h with h | h
  · rcases h with h | ⟨o, h⟩
    · exact .inl (.inl (m _ _ h))
    · exact .inl (.inr ⟨o, m _ _ h⟩)
  · exact .inr h
theorem sqC_mono {D : Dm} {G G' : Hp} {a : Addr} {xs : List V} (m : ∀ b o, G b = some o → G' b = some o) (h : SqC D G a xs) : SqC D G' a xs := by
  rcases h with h | ⟨h0, h⟩
  · exact .inl (m _ _ h)
  · refine .inr ⟨h0, ?_⟩
    rcases h with h | h
    · rcases h with h | ⟨o, h⟩
      · exact .inl (.inl (m _ _ h))
      · exact .inl (.inr ⟨o, m _ _ h⟩)
    · exact .inr h
theorem sqT_mono {K : PySem.W.Frag} {G G' : Hp} {a : Addr} {xs : List V} (m : ∀ b o, G b = some o → G' b = some o) (h : SqT K G a xs) : SqT K G' a xs := by
  rcases h with h | h
  · rcases h with h | ⟨o, h⟩
    · exact .inl (.inl (m _ _ h))
    · exact .inl (.inr ⟨o, m _ _ h⟩)
  · exact .inr h

section
variable {D : Dm} {G G' : Hp}
mutual
theorem RepV.mono (m : ∀ b o, G b = some o → G' b = some o) : ∀ {x : PV} {v : V}, RepV D G x v → RepV D G' x v
  | .non, _, h => h
  | .bl _, _, h => h
  | .int _, _, h => h
  | .str _, _, h => h
  | .lst xs, _, h => by
    obtain ⟨a, vs, e, q, r⟩ := h
    exact ⟨a, vs, e, sqL_mono m q, RepVs.mono m r⟩
  | .tup xs, _, h => by
    obtain ⟨a, vs, e, q, r⟩ := h
    exact ⟨a, vs, e, sqC_mono m q, RepVs.mono m r⟩
  | .dic b ks xs, _, h => by
    obtain ⟨a, us, e, q, r⟩ := h
    exact ⟨a, us, e, q.move (m _), RepVs.mono m r⟩
  | .fn _, _, h => h
  | .obj _ xs, _, h => by
    obtain ⟨a, vs, e, q, r⟩ := h
    exact ⟨a, vs, e, sq0_mono m q, RepVs.mono m r⟩
theorem RepVs.mono (m : ∀ b o, G b = some o → G' b = some o) : ∀ {xs : List PV} {vs : List V}, RepVs D G xs vs → RepVs D G' xs vs
  | [], _, h => h
  | x :: xs, _, h => by
    obtain ⟨v, r, e, h1, h2⟩ := h
    exact ⟨v, r, e, RepV.mono m h1, RepVs.mono m h2⟩
end
theorem RepVs.length : ∀ {xs : List PV} {vs : List V}, RepVs D G xs vs → xs.length = vs.length
  | [], _, h => by
    have e : _ = [] := h
    rw [e]
    rfl
  | x :: xs, _, h => by
    obtain ⟨v, r, e, h1, h2⟩ := h
    rw [e, List.length_cons, List.length_cons, RepVs.length h2]
theorem RepVs.app : ∀ {xs ys : List PV} {vs us : List V}, RepVs D G xs vs → RepVs D G ys us → RepVs D G (xs ++ ys) (vs ++ us)
  | [], _, _, _, h, q => by
    have e : _ = [] := h
    rw [e]
    exact q
  | x :: xs, _, _, _, h, q => by
    obtain ⟨v, r, e, h1, h2⟩ := h
    rw [e]
    exact ⟨v, _, rfl, h1, RepVs.app h2 q⟩
theorem RepVs.get : ∀ {xs : List PV} {vs : List V} {i : Nat} {x : PV}, RepVs D G xs vs → xs[i]? = some x → ∃ v, vs[i]? = some v ∧ RepV D G x v
  | [], _, _, _, h, q => by simp at q
  | x :: xs, _, 0, y, h, q => by
    obtain ⟨v, r, e, h1, h2⟩ := h
    rw [e]
    have ex : x = y := by simpa using q
    exact ⟨v, rfl, ex ▸ h1⟩
  | x :: xs, _, i + 1, y, h, q => by
    obtain ⟨v, r, e, h1, h2⟩ := h
    rw [e]
    obtain ⟨u, a, b⟩ := RepVs.get h2 (i := i) (x := y) (by simpa using q)
    exact ⟨u, by simpa using a, b⟩
theorem RepVs.get' : ∀ {xs : List PV} {vs : List V} {i : Nat} {v : V}, RepVs D G xs vs → vs[i]? = some v → ∃ x, xs[i]? = some x ∧ RepV D G x v
  | [], _, _, _, h, q => by
    have e : _ = [] := h
    rw [e] at q
    simp at q
  | x :: xs, _, 0, y, h, q => by
    obtain ⟨v, r, e, h1, h2⟩ := h
    rw [e] at q
    have ex : v = y := by simpa using q
    exact ⟨x, rfl, ex ▸ h1⟩
  | x :: xs, _, i + 1, y, h, q => by
    obtain ⟨v, r, e, h1, h2⟩ := h
    rw [e] at q
    obtain ⟨u, a, b⟩ := RepVs.get' h2 (i := i) (v := y) (by simpa using q)
    exact ⟨u, by simpa using a, b⟩
theorem RepVs.take : ∀ {xs : List PV} {vs : List V} (n : Nat), RepVs D G xs vs → RepVs D G (xs.take n) (vs.take n)
  | [], _, n, h => by
    have e : _ = [] := h
    rw [e]
    simp [RepVs]
  | x :: xs, _, 0, h => by simp [RepVs]
  | x :: xs, _, n + 1, h => by
    obtain ⟨v, r, e, h1, h2⟩ := h
    rw [e]
    exact ⟨v, _, rfl, h1, RepVs.take n h2⟩
theorem RepVs.drop : ∀ {xs : List PV} {vs : List V} (n : Nat), RepVs D G xs vs → RepVs D G (xs.drop n) (vs.drop n)
  | [], _, n, h => by
    have e : _ = [] := h
    rw [e]
    simp [RepVs]
  | x :: xs, _, 0, h => h
  | x :: xs, _, n + 1, h => by
    obtain ⟨v, r, e, h1, h2⟩ := h
    rw [e]
    exact RepVs.drop n h2
theorem RepVs.rev : ∀ {xs : List PV} {vs : List V}, RepVs D G xs vs → RepVs D G xs.reverse vs.reverse
  | [], _, h => by
    have e : _ = [] := h
    rw [e]
    exact (show RepVs D G [] [] from rfl)
  | x :: xs, _, h => by
    obtain ⟨v, r, e, h1, h2⟩ := h
    rw [e, List.reverse_cons, List.reverse_cons]
    exact RepVs.app (RepVs.rev h2) ⟨v, [], rfl, h1, rfl⟩
theorem RepVs.asIs : ∀ {xs : List PV} {vs : List V} {l : List Int}, RepVs D G xs vs → getIs xs = some l → vs = l.map V.int
  | [], _, l, h, q => by
    have e : _ = [] := h
    rw [e]
    have : l = [] := by simpa [getIs] using q.symm
    rw [this]
    rfl
  | .int i :: xs, _, l, h, q => by
    obtain ⟨v, r, e, h1, h2⟩ := h
    simp only [getIs, Option.map_eq_some_iff] at q
    obtain ⟨l', q1, rfl⟩ := q
    rw [e, RepVs.asIs h2 q1, show v = .int i from h1]
    rfl
  | .non :: _, _, _, _, q | .bl _ :: _, _, _, _, q | .str _ :: _, _, _, _, q | .lst _ :: _, _, _, _, q | .tup _ :: _, _, _, _, q | .dic _ _ _ :: _, _, _, _, q | .fn _ :: _, _, _, _, q | .obj _ _ :: _, _, _, _, q => by simp [getIs] at q
theorem RepVs.ofInts : ∀ (l : List Int), RepVs D G (l.map .int) (l.map V.int)
  | [] => rfl
  | i :: l => ⟨_, _, rfl, rfl, RepVs.ofInts l⟩
theorem RepVs.asSs : ∀ {xs : List PV} {vs : List V} {l : List (List Nat)}, RepVs D G xs vs → getSs xs = some l → vs = l.map (fun s => V.str (S s)) ∧ ∀ s ∈ l, okS s
  | [], _, l, h, q => by
    have e : _ = [] := h
    rw [e]
    have : l = [] := by simpa [getSs] using q.symm
    rw [this]
    exact ⟨rfl, by simp⟩
  | .str i :: xs, _, l, h, q => by
    obtain ⟨v, r, e, h1, h2⟩ := h
    simp only [getSs, Option.map_eq_some_iff] at q
    obtain ⟨l', q1, rfl⟩ := q
    obtain ⟨e1, o1⟩ := RepVs.asSs h2 q1
    rw [e, e1, show v = .str (S i) from h1.2]
    refine ⟨rfl, fun s hs => ?_⟩
    rcases List.mem_cons.mp hs with rfl | hs
    · exact h1.1
    · exact o1 s hs
  | .non :: _, _, _, _, q | .bl _ :: _, _, _, _, q | .int _ :: _, _, _, _, q | .lst _ :: _, _, _, _, q | .tup _ :: _, _, _, _, q | .dic _ _ _ :: _, _, _, _, q | .fn _ :: _, _, _, _, q | .obj _ _ :: _, _, _, _, q => by simp [getSs] at q
theorem RepVs.ofStrs : ∀ (l : List (List Nat)), (∀ s ∈ l, okS s) → RepVs D G (l.map .str) (l.map fun s => V.str (S s))
  | [], _ => rfl
  | i :: l, h => ⟨_, _, rfl, ⟨h i (by simp), rfl⟩, RepVs.ofStrs l fun s hs => h s (by simp [hs])⟩
end

/-! ### ownership -/
section
variable (D : Dm) (G H : Hp)
mutual
def OwnR : Nat → PV → V → List Addr → Prop
  | n + 1, .lst xs, v, F => ∃ a vs Fs, v = .ref a ∧ H a = some (.lst vs) ∧ F = a :: Fs ∧ OwnRs n xs vs Fs
  | 0, .lst xs, v, F => F = [] ∧ RepV D G (.lst xs) v
  | n + 1, .dic b ks xs, v, F => ∃ a us, v = .ref a ∧ DcA D H a b ks us ∧ F = [a] ∧ RepVs D G xs us
  | 0, .dic b ks xs, v, F => F = [] ∧ RepV D G (.dic b ks xs) v
  | n, .non, v, F => F = [] ∧ RepV D G .non v
  | n, .bl b, v, F => F = [] ∧ RepV D G (.bl b) v
  | n, .int i, v, F => F = [] ∧ RepV D G (.int i) v
  | n, .str s, v, F => F = [] ∧ RepV D G (.str s) v
  | n, .tup xs, v, F => F = [] ∧ RepV D G (.tup xs) v
  | n, .fn i, v, F => F = [] ∧ RepV D G (.fn i) v
  | n, .obj c fs, v, F => F = [] ∧ RepV D G (.obj c fs) v
def OwnRs : Nat → List PV → List V → List Addr → Prop
  | _, [], vs, F => vs = [] ∧ F = []
  | n, x :: xs, vs, F => ∃ v r F1 F2, vs = v :: r ∧ F = F1 ++ F2 ∧ OwnR n x v F1 ∧ OwnRs n xs r F2
end
end

def PV.isL : PV → Bool
  | .lst _ => true
  | .dic _ _ _ => true
  | _ => false

section
variable {D : Dm} {G H G' H' : Hp}
theorem OwnR.flat {n : Nat} {x : PV} {v : V} {F : List Addr} (f : x.isL = false) : OwnR D G H n x v F ↔ F = [] ∧ RepV D G x v := by
  cases x <;> cases n <;> simp [OwnR] <;> simp [PV.isL] at f
theorem OwnR.zero {x : PV} {v : V} {F : List Addr} : OwnR D G H 0 x v F ↔ F = [] ∧ RepV D G x v := by
  cases x <;> simp [OwnR]
mutual
theorem OwnR.mem : ∀ {n : Nat} {x : PV} {v : V} {F : List Addr}, OwnR D G H n x v F → ∀ b ∈ F, ∃ o, H b = some o
  | n + 1, .lst xs, v, F, h, b, hb => by
    obtain ⟨a, vs, Fs, e, ha, eF, q⟩ := h
    rw [eF] at hb
    rcases List.mem_cons.mp hb with rfl | hb
    · exact ⟨_, ha⟩
    · exact OwnRs.mem q b hb
  | 0, .lst xs, v, F, h, b, hb => by
    rw [(OwnR.zero.mp h).1] at hb
    cases hb
  | n + 1, .dic _ _ _, v, F, h, b, hb => by
    obtain ⟨a, us, e, ha, eF, q⟩ := h
    rw [eF] at hb
    rw [List.mem_singleton.mp hb]
    exact ha.has
  | 0, .dic _ _ _, v, F, h, b, hb => by
    rw [(OwnR.zero.mp h).1] at hb
    cases hb
  | n, .non, v, F, h, b, hb | n, .bl _, v, F, h, b, hb | n, .int _, v, F, h, b, hb | n, .str _, v, F, h, b, hb | n, .tup _, v, F, h, b, hb | n, .fn _, v, F, h, b, hb | n, .obj _ _, v, F, h, b, hb => by
    rw [((OwnR.flat rfl).mp h).1] at hb
    cases hb
theorem OwnRs.mem : ∀ {n : Nat} {xs : List PV} {vs : List V} {F : List Addr}, OwnRs D G H n xs vs F → ∀ b ∈ F, ∃ o, H b = some o
  | _, [], _, _, h, b, hb => by
    rw [h.2] at hb
    cases hb
  | n, x :: xs, _, _, h, b, hb => by
    obtain ⟨v, r, F1, F2, e, eF, h1, h2⟩ := h
    rw [eF] at hb
    rcases List.mem_append.mp hb with hb | hb
    · exact OwnR.mem h1 b hb
    · exact OwnRs.mem h2 b hb
end
mutual
theorem OwnR.mono (m : ∀ b o, G b = some o → G' b = some o) : ∀ {n : Nat} {x : PV} {v : V} {F : List Addr}, (∀ b ∈ F, ∀ o, H b = some o → H' b = some o) → OwnR D G H n x v F → OwnR D G' H' n x v F
  | n + 1, .lst xs, v, F, k, h => by
    obtain ⟨a, vs, Fs, e, ha, eF, q⟩ := h
    rw [eF] at k
    exact ⟨a, vs, Fs, e, k a (by simp) _ ha, eF, OwnRs.mono m (fun b hb => k b (by simp [hb])) q⟩
  | 0, .lst xs, v, F, k, h => OwnR.zero.mpr ⟨(OwnR.zero.mp h).1, RepV.mono m (OwnR.zero.mp h).2⟩
  | n + 1, .dic _ _ xs, v, F, k, h => by
    obtain ⟨a, us, e, ha, eF, q⟩ := h
    rw [eF] at k
    exact ⟨a, us, e, ha.move (k a (by simp)), eF, RepVs.mono m q⟩
  | 0, .dic _ _ _, v, F, k, h => OwnR.zero.mpr ⟨(OwnR.zero.mp h).1, RepV.mono m (OwnR.zero.mp h).2⟩
  | n, .non, v, F, k, h | n, .bl _, v, F, k, h | n, .int _, v, F, k, h | n, .str _, v, F, k, h | n, .tup _, v, F, k, h | n, .fn _, v, F, k, h | n, .obj _ _, v, F, k, h =>
    (OwnR.flat rfl).mpr ⟨((OwnR.flat rfl).mp h).1, RepV.mono m ((OwnR.flat rfl).mp h).2⟩
theorem OwnRs.mono (m : ∀ b o, G b = some o → G' b = some o) : ∀ {n : Nat} {xs : List PV} {vs : List V} {F : List Addr}, (∀ b ∈ F, ∀ o, H b = some o → H' b = some o) → OwnRs D G H n xs vs F → OwnRs D G' H' n xs vs F
  | _, [], _, _, k, h => h
  | n, x :: xs, _, _, k, h => by
    obtain ⟨v, r, F1, F2, e, eF, h1, h2⟩ := h
    rw [eF] at k
    exact ⟨v, r, F1, F2, e, eF, OwnR.mono m (fun b hb => k b (by simp [hb])) h1, OwnRs.mono m (fun b hb => k b (by simp [hb])) h2⟩
end
/- given up: all that was owned is known for ever -/
mutual
theorem OwnR.dem (m : ∀ b o, G b = some o → G' b = some o) : ∀ {n : Nat} {x : PV} {v : V} {F : List Addr}, (∀ b ∈ F, ∀ o, H b = some o → G' b = some o) → OwnR D G H n x v F → RepV D G' x v
  | n + 1, .lst xs, v, F, k, h => by
    obtain ⟨a, vs, Fs, e, ha, eF, q⟩ := h
    rw [eF] at k
    exact ⟨a, vs, e, LsA.of (k a (by simp) _ ha), OwnRs.dem m (fun b hb => k b (by simp [hb])) q⟩
  | 0, .lst xs, v, F, k, h => RepV.mono m (OwnR.zero.mp h).2
  | n + 1, .dic _ _ xs, v, F, k, h => by
    obtain ⟨a, us, e, ha, eF, q⟩ := h
    rw [eF] at k
    exact ⟨a, us, e, ha.move (k a (by simp)), RepVs.mono m q⟩
  | 0, .dic _ _ _, v, F, k, h => RepV.mono m (OwnR.zero.mp h).2
  | n, .non, v, F, k, h | n, .bl _, v, F, k, h | n, .int _, v, F, k, h | n, .str _, v, F, k, h | n, .tup _, v, F, k, h | n, .fn _, v, F, k, h | n, .obj _ _, v, F, k, h =>
    RepV.mono m ((OwnR.flat rfl).mp h).2
theorem OwnRs.dem (m : ∀ b o, G b = some o → G' b = some o) : ∀ {n : Nat} {xs : List PV} {vs : List V} {F : List Addr}, (∀ b ∈ F, ∀ o, H b = some o → G' b = some o) → OwnRs D G H n xs vs F → RepVs D G' xs vs
  | _, [], _, _, k, h => h.1
  | n, x :: xs, _, _, k, h => by
    obtain ⟨v, r, F1, F2, e, eF, h1, h2⟩ := h
    rw [eF] at k
    exact ⟨v, r, e, OwnR.dem m (fun b hb => k b (by simp [hb])) h1, OwnRs.dem m (fun b hb => k b (by simp [hb])) h2⟩
end
/-- with all the heap known, what is owned is to be read -/
theorem OwnR.rep (s : ∀ b o, G b = some o → H b = some o) {n : Nat} {x : PV} {v : V} {F : List Addr} (h : OwnR D G H n x v F) : RepV D H x v := h.dem s fun _ _ _ e => e
end

/-! ### the state -/
abbrev Fps := Nat → List Addr
structure Rel (D : Dm) (ms : Nat → Nat) (env : Env) (σ : L2.St) (H G : Hp) (Fp : Fps) : Prop where
  at_ : ∀ i x, getV env i = some x → ∃ v, σ[i]? = some (some v) ∧ OwnR D G H (ms i) x v (Fp i)
  no : ∀ i, getV env i = none → Fp i = []
  sub : ∀ b o, G b = some o → H b = some o
  dis : ∀ i b, b ∈ Fp i → G b = none
  nd : ∀ i, (Fp i).Nodup
  sep : ∀ i j b, b ∈ Fp i → b ∈ Fp j → i = j
  len : env.length = σ.length
/-- what a piece of the program does to the rest -/
structure Ext (M : Nat → Prop) (env : Env) (H G : Hp) (Fp : Fps) (env' : Env) (H' G' : Hp) (Fp' : Fps) : Prop where
  far : ∀ b o, H b = some o → (∀ i, b ∉ Fp i) → H' b = some o ∧ (∀ i, b ∉ Fp' i) ∧ (G b = none → G' b = none)
  own : ∀ i b o, b ∈ Fp i → ¬ M i → H b = some o → H' b = some o
  mono : ∀ b o, G b = some o → G' b = some o
  same : ∀ i, ¬ M i → Fp' i = Fp i ∧ getV env' i = getV env i
/-- a value on its way, its footprint F -/
structure Tmp (D : Dm) (n : Nat) (x : PV) (v : V) (H G : Hp) (Fp : Fps) (F : List Addr) : Prop where
  own : OwnR D G H n x v F
  dis : ∀ b ∈ F, G b = none ∧ ∀ i, b ∉ Fp i
  nd : F.Nodup

section
variable {D : Dm} {ms : Nat → Nat} {env env' env2 : Env} {σ : L2.St} {H H' H2 G G' G2 : Hp} {Fp Fp' Fp2 : Fps} {M M' : Nat → Prop} {n : Nat} {x : PV} {v : V} {F : List Addr}
theorem Ext.refl : Ext M env H G Fp env H G Fp := ⟨fun b o e n => ⟨e, n, fun q => q⟩, fun _ _ _ _ _ e => e, fun _ _ e => e, fun _ _ => ⟨rfl, rfl⟩⟩
theorem Ext.trans (a : Ext M env H G Fp env' H' G' Fp') (b : Ext M env' H' G' Fp' env2 H2 G2 Fp2) : Ext M env H G Fp env2 H2 G2 Fp2 where
  far := fun c o e n => by
    obtain ⟨e1, n1, g1⟩ := a.far c o e n
    obtain ⟨e2, n2, g2⟩ := b.far c o e1 n1
    exact ⟨e2, n2, fun q => g2 (g1 q)⟩
  own := fun i c o h m e => b.own i c o (by rw [(a.same i m).1]; exact h) m (a.own i c o h m e)
  mono := fun c o e => b.mono c o (a.mono c o e)
  same := fun i m => ⟨(b.same i m).1.trans (a.same i m).1, (b.same i m).2.trans (a.same i m).2⟩
theorem Ext.weak (a : Ext M env H G Fp env' H' G' Fp') (h : ∀ i, M i → M' i) : Ext M' env H G Fp env' H' G' Fp' :=
  ⟨a.far, fun i b o q m e => a.own i b o q (fun z => m (h i z)) e, a.mono, fun i m => a.same i fun z => m (h i z)⟩
theorem Ext.trans2 (a : Ext M env H G Fp env' H' G' Fp') (b : Ext M' env' H' G' Fp' env2 H2 G2 Fp2) {N : Nat → Prop} (h : ∀ i, M i → N i) (h' : ∀ i, M' i → N i) : Ext N env H G Fp env2 H2 G2 Fp2 := (a.weak h).trans (b.weak h')
/-- all that stood is there still -/
theorem Ext.all (a : Ext M env H G Fp env' H' G' Fp') (hM : ∀ i, ¬ M i) : ∀ b o, H b = some o → H' b = some o := fun b o e => by
  by_cases h : ∃ i, b ∈ Fp i
  · obtain ⟨i, hi⟩ := h
    exact a.own i b o hi (hM i) e
  · exact (a.far b o e fun i hi => h ⟨i, hi⟩).1
theorem Tmp.carry (t : Tmp D n x v H G Fp F) (a : Ext M env H G Fp env' H' G' Fp') : Tmp D n x v H' G' Fp' F where
  own := t.own.mono a.mono fun b hb o e => (a.far b o e (t.dis b hb).2).1
  dis := fun b hb => by
    obtain ⟨vs, e⟩ := t.own.mem b hb
    obtain ⟨_, n1, g1⟩ := a.far b _ e (t.dis b hb).2
    exact ⟨g1 (t.dis b hb).1, n1⟩
  nd := t.nd
theorem Tmp.flat (r : RepV D G x v) (f : x.isL = false) : Tmp D n x v H G Fp [] := ⟨(OwnR.flat f).mpr ⟨rfl, r⟩, fun _ h => (nomatch h), List.Pairwise.nil⟩
theorem Tmp.zero (r : RepV D G x v) : Tmp D 0 x v H G Fp [] := ⟨OwnR.zero.mpr ⟨rfl, r⟩, fun _ h => (nomatch h), List.Pairwise.nil⟩
/-- the known part, more of it -/
def addG (G H : Hp) (F : List Addr) : Hp := fun b => if b ∈ F then H b else G b
theorem addG_in {b : Addr} (h : b ∈ F) : addG G H F b = H b := if_pos h
theorem addG_out {b : Addr} (h : b ∉ F) : addG G H F b = G b := if_neg h
theorem addG_mono (s : ∀ b o, G b = some o → H b = some o) : ∀ b o, G b = some o → addG G H F b = some o := fun b o e => by
  by_cases h : b ∈ F
  · rw [addG_in h]; exact s b o e
  · rw [addG_out h]; exact e
theorem Rel.stay {Hx : Hp} (R : Rel D ms env σ H G Fp) (m : ∀ b o, G b = some o → G' b = some o) (k : ∀ i b o, b ∈ Fp i → H b = some o → Hx b = some o) : ∀ i x, getV env i = some x → ∃ v, σ[i]? = some (some v) ∧ OwnR D G' Hx (ms i) x v (Fp i) := fun i x e => by
  obtain ⟨v, e1, o⟩ := R.at_ i x e
  exact ⟨v, e1, o.mono m fun b hb o => k i b o hb⟩
/-- what is new since a state -/
def New (H : Hp) (Fp : Fps) (F : List Addr) : Prop := ∀ b o, H b = some o → (∀ i, b ∉ Fp i) → b ∉ F
/-- a value on its way is given up: it is known for ever -/
theorem give {env0 : Env} {H0 G0 : Hp} {Fp0 : Fps} (R : Rel D ms env σ H G Fp) (a : Ext M env0 H0 G0 Fp0 env H G Fp) (t : Tmp D n x v H G Fp F) (nw : New H0 Fp0 F) :
    ∃ G', Rel D ms env σ H G' Fp ∧ Ext M env0 H0 G0 Fp0 env H G' Fp ∧ RepV D G' x v ∧ (∀ b o, G b = some o → G' b = some o) := by
  refine ⟨addG G H F, ⟨R.stay (addG_mono R.sub) fun _ _ _ _ e => e, R.no, fun b o e => ?_, fun i b hb => ?_, R.nd, R.sep, R.len⟩, ⟨fun b o e n => ?_, a.own, fun b o e => addG_mono R.sub b o (a.mono b o e), a.same⟩, t.own.dem (addG_mono R.sub) fun b hb o e => ?_, addG_mono R.sub⟩
  · by_cases h : b ∈ F
    · rw [addG_in h] at e; exact e
    · rw [addG_out h] at e; exact R.sub b o e
  · have h : b ∉ F := fun h => (t.dis b h).2 i hb
    rw [addG_out h]
    exact R.dis i b hb
  · obtain ⟨e1, n1, g1⟩ := a.far b o e n
    refine ⟨e1, n1, fun q => ?_⟩
    rw [addG_out (nw b o e n)]
    exact g1 q
  · rw [addG_in hb]; exact e
/-- a new object that is known for ever -/
theorem newG {env0 : Env} {H0 G0 : Hp} {Fp0 : Fps} {p : Addr} {o : HO} (R : Rel D ms env σ H G Fp) (a : Ext M env0 H0 G0 Fp0 env H G Fp) (hp : H p = none) :
    Rel D ms env σ (upd H p o) (upd G p o) Fp ∧ Ext M env0 H0 G0 Fp0 env (upd H p o) (upd G p o) Fp ∧ ∀ b u, G b = some u → upd G p o b = some u := by
  have gp : G p = none := by
    cases q : G p with
    | none => rfl
    | some u => rw [R.sub _ _ q] at hp; cases hp
  have m : ∀ b u, G b = some u → upd G p o b = some u := fun b u e => by rw [upd_ne (ne_of_none e gp)]; exact e
  have mh : ∀ b u, H b = some u → upd H p o b = some u := fun b u e => by rw [upd_ne (ne_of_none e hp)]; exact e
  refine ⟨⟨R.stay m fun i b u _ e => mh b u e, R.no, fun b u e => ?_, fun i b hb => ?_, R.nd, R.sep, R.len⟩, ⟨fun b u e n => ?_, fun i b u h m e => mh b u (a.own i b u h m e), fun b u e => m b u (a.mono b u e), a.same⟩, m⟩
  · by_cases h : b = p
    · subst h; rw [upd_same] at e ⊢; exact e
    · rw [upd_ne h] at e ⊢; exact R.sub b u e
  · have h : b ≠ p := fun h => by
      subst h
      cases q : getV env i with
      | none => rw [R.no i q] at hb; cases hb
      | some x =>
        obtain ⟨v, _, o⟩ := R.at_ i x q
        obtain ⟨vs, e⟩ := o.mem b hb
        rw [hp] at e; cases e
    rw [upd_ne h]; exact R.dis i b hb
  · obtain ⟨e1, n1, g1⟩ := a.far b u e n
    refine ⟨mh b u e1, n1, fun q => ?_⟩
    rw [upd_ne (ne_of_none e1 hp)]
    exact g1 q
theorem Rel.has (R : Rel D ms env σ H G Fp) {i : Nat} {b : Addr} (hb : b ∈ Fp i) : ∃ o, H b = some o := by
  cases q : getV env i with
  | none => rw [R.no i q] at hb; cases hb
  | some x =>
    obtain ⟨v, _, o⟩ := R.at_ i x q
    exact o.mem b hb
/-- a new list on its way, its items' footprint Fs -/
theorem newL {env0 : Env} {H0 G0 : Hp} {Fp0 : Fps} {p : Addr} {xs : List PV} {vs : List V} {Fs : List Addr} (R : Rel D ms env σ H G Fp) (a : Ext M env0 H0 G0 Fp0 env H G Fp) (hp : H p = none)
    (ow : OwnRs D G H n xs vs Fs) (ds : ∀ b ∈ Fs, G b = none ∧ ∀ i, b ∉ Fp i) (nd : Fs.Nodup) (nw : New H0 Fp0 Fs) :
    Rel D ms env σ (upd H p (.lst vs)) G Fp ∧ Ext M env0 H0 G0 Fp0 env (upd H p (.lst vs)) G Fp ∧ Tmp D (n + 1) (.lst xs) (.ref p) (upd H p (.lst vs)) G Fp (p :: Fs) ∧ New H0 Fp0 (p :: Fs) := by
  have gp : G p = none := by
    cases q : G p with
    | none => rfl
    | some u => rw [R.sub _ _ q] at hp; cases hp
  have mh : ∀ b u, H b = some u → upd H p (.lst vs) b = some u := fun b u e => by rw [upd_ne (ne_of_none e hp)]; exact e
  have npF : ∀ i, p ∉ Fp i := fun i h => by
    obtain ⟨us, e⟩ := R.has h
    rw [hp] at e; cases e
  have npFs : p ∉ Fs := fun h => by
    obtain ⟨us, e⟩ := ow.mem p h
    rw [hp] at e; cases e
  refine ⟨⟨R.stay (fun _ _ e => e) fun i b u _ e => mh b u e, R.no, fun b u e => mh b u (R.sub b u e), R.dis, R.nd, R.sep, R.len⟩, ⟨fun b u e n => ?_, fun i b u h m e => mh b u (a.own i b u h m e), a.mono, a.same⟩, ⟨⟨p, vs, Fs, rfl, upd_same, rfl, ow.mono (fun _ _ e => e) fun b hb o e => mh b o e⟩, fun b hb => ?_, List.nodup_cons.mpr ⟨npFs, nd⟩⟩, fun b o e n hb => ?_⟩
  · obtain ⟨e1, n1, g1⟩ := a.far b u e n
    exact ⟨mh b u e1, n1, g1⟩
  · rcases List.mem_cons.mp hb with rfl | hb
    · exact ⟨gp, npF⟩
    · exact ds b hb
  · rcases List.mem_cons.mp hb with rfl | hb
    · obtain ⟨e1, _⟩ := a.far b o e n
      rw [hp] at e1; cases e1
    · exact nw b o e n hb
theorem OwnRs.ofG : ∀ {xs : List PV} {vs : List V}, RepVs D G xs vs → OwnRs D G H 0 xs vs []
  | [], _, h => ⟨h, rfl⟩
  | x :: xs, _, h => by
    obtain ⟨v, r, e, h1, h2⟩ := h
    exact ⟨v, r, [], [], e, rfl, OwnR.zero.mpr ⟨rfl, h1⟩, OwnRs.ofG h2⟩
theorem OwnRs.toG : ∀ {xs : List PV} {vs : List V} {F : List Addr}, OwnRs D G H 0 xs vs F → RepVs D G xs vs ∧ F = []
  | [], _, _, h => ⟨h.1, h.2⟩
  | x :: xs, _, _, h => by
    obtain ⟨v, r, F1, F2, e, eF, h1, h2⟩ := h
    obtain ⟨q, e2⟩ := OwnRs.toG h2
    obtain ⟨e1, q1⟩ := OwnR.zero.mp h1
    exact ⟨⟨v, r, e, q1, q⟩, by rw [eF, e1, e2]; rfl⟩
end

/-! ### operands as they are read, results as they are made -/
/-- to be read: known for ever, or a list of known items that a slot owns -/
def RdE (D : Dm) (G H : Hp) (x : PV) (v : V) : Prop := RepV D G x v ∨ (∃ a vs xs, x = .lst xs ∧ v = .ref a ∧ H a = some (.lst vs) ∧ RepVs D G xs vs) ∨ ∃ a b ks us xs, x = .dic b ks xs ∧ v = .ref a ∧ DcA D H a b ks us ∧ RepVs D G xs us
inductive Made (D : Dm) (G H : Hp) (f : Bool) : PV → V → Hp → Hp → Prop
  | old {x : PV} {v : V} : RepV D G x v → (f = true → x.isL = false) → Made D G H f x v H G
  | lst {xs : List PV} {vs : List V} {p : Addr} : H p = none → RepVs D G xs vs → Made D G H f (.lst xs) (.ref p) (upd H p (.lst vs)) G
  | tup {xs : List PV} {vs : List V} {p : Addr} : H p = none → RepVs D G xs vs → Made D G H f (.tup xs) (.ref p) (upd H p (.tup vs)) (upd G p (.tup vs))
section
variable {D : Dm} {ms : Nat → Nat} {env env0 : Env} {σ : L2.St} {H H' H0 G G' G0 : Hp} {Fp Fp0 : Fps} {M : Nat → Prop} {x : PV} {v : V}
theorem RdE.rep (s : ∀ b o, G b = some o → H b = some o) (h : RdE D G H x v) : RepV D H x v := by
  rcases h with h | ⟨a, vs, xs, rfl, rfl, e, r⟩ | ⟨a, b, ks, us, xs, rfl, rfl, e, r⟩
  · exact h.mono s
  · exact ⟨a, vs, rfl, LsA.of e, r.mono s⟩
  · exact ⟨a, us, rfl, e, r.mono s⟩
theorem RdE.lst {xs : List PV} (s : ∀ b o, G b = some o → H b = some o) (h : RdE D G H (.lst xs) v) : ∃ a vs, v = .ref a ∧ LsA D.K H a vs ∧ RepVs D G xs vs := by
  rcases h with ⟨a, vs, e, q, r⟩ | ⟨a, vs, ys, e, rfl, q, r⟩ | ⟨a, b, ks, us, ys, e, _⟩
  · exact ⟨a, vs, e, sqL_mono s q, r⟩
  · cases e
    exact ⟨a, vs, rfl, LsA.of q, r⟩
  · cases e
theorem RdE.flat (h : RdE D G H x v) (f : x.isL = false) : RepV D G x v := by
  rcases h with h | ⟨a, vs, xs, rfl, _⟩ | ⟨a, b, ks, us, xs, rfl, _⟩
  · exact h
  · cases f
  · cases f
theorem RdE.dic {b : Bool} {ks xs : List PV} (s : ∀ b o, G b = some o → H b = some o) (h : RdE D G H (.dic b ks xs) v) : ∃ a us, v = .ref a ∧ DcA D H a b ks us ∧ RepVs D G xs us := by
  rcases h with ⟨a, us, e, q, r⟩ | ⟨a, vs, ys, e, _⟩ | ⟨a, b', ks', us, ys, e, rfl, q, r⟩
  · exact ⟨a, us, e, q.move (s _), r⟩
  · cases e
  · cases e
    exact ⟨a, us, rfl, q, r⟩
theorem RdE.int {i : Int} (h : RdE D G H (.int i) v) : v = .int i := h.flat rfl
theorem RdE.str {s : List Nat} (h : RdE D G H (.str s) v) : okS s ∧ v = .str (S s) := h.flat rfl
theorem RdE.tup {xs : List PV} (h : RdE D G H (.tup xs) v) : ∃ a vs, v = .ref a ∧ SqC D G a vs ∧ RepVs D G xs vs := h.flat rfl
/-- the result of an operation: the state behind it, the value on its way -/
theorem Made.fin {b : Bool} (m : Made D G H b x v H' G') (R : Rel D ms env σ H G Fp) (a : Ext M env0 H0 G0 Fp0 env H G Fp) :
    Rel D ms env σ H' G' Fp ∧ Ext M env0 H0 G0 Fp0 env H' G' Fp ∧ (∀ c o, G c = some o → G' c = some o) ∧ ((b = false → ∃ F, Tmp D 0 x v H' G' Fp F ∧ New H0 Fp0 F) ∨ ∃ F, Tmp D 1 x v H' G' Fp F ∧ New H0 Fp0 F) := by
  cases m with
  | old r f => 
    refine ⟨R, a, fun _ _ e => e, ?_⟩
    cases b with
    | false => exact .inl fun _ => ⟨[], Tmp.zero r, fun _ _ _ _ => List.not_mem_nil⟩
    | true => exact .inr ⟨[], Tmp.flat r (f rfl), fun _ _ _ _ => List.not_mem_nil⟩
  | lst hp r =>
    obtain ⟨R1, a1, t1, n1⟩ := newL R a hp (OwnRs.ofG (H := H) r) (fun _ h => nomatch h) List.Pairwise.nil (fun _ _ _ _ => List.not_mem_nil)
    exact ⟨R1, a1, fun _ _ e => e, .inr ⟨_, t1, n1⟩⟩
  | tup hp r =>
    obtain ⟨R1, a1, m1⟩ := newG R a hp
    exact ⟨R1, a1, m1, .inr ⟨[], Tmp.flat ⟨_, _, rfl, SqC.of upd_same, r.mono m1⟩ rfl, fun _ _ _ _ => List.not_mem_nil⟩⟩
end
end Ev

/-! Ev3: the operations by values. -/
namespace Ev
open PySem PySem.Spec PyProof.Rows L2
section
variable {X : Cx} {D : Dm} {G H : Hp}

/-! ### lists that are read -/
theorem isL {pins : List (Addr × Obj)} {σ : L2.St} {s : Shared} {a : Addr} {xs : List V} (I : Inv X pins σ H s) (h : LsA X.K H a xs) :
    xs.length ≤ sizeLine ∧ ∃ (its : List Value) (n : Nat), Vals xs its ∧ xs.length = its.length ∧ s.heap.get? a = some { cls := .type "list", data := .seq its.toArray n } := by
  rcases h with h | ⟨its, n, e, z, r⟩
  · obtain ⟨z, its, n, r, e⟩ := h.ok I.hok
    exact ⟨z, its, n, r, r.length, e⟩
  · have l := r.length
    have l2 : its.toList.length = its.size := Array.length_toList
    exact ⟨by omega, its.toList, n, r, l, by rw [I.kIn a _ e]⟩
def rCatL (K : PySem.W.Frag) : R2 := fun x y H Q => ∃ l b xs zs, x = .ref l ∧ y = .ref b ∧ LsA K H l xs ∧ LsA K H b zs ∧ xs.length + zs.length ≤ sizeLine ∧ ∀ p, H p = none → Q (.ref p) (upd H p (.lst (xs ++ zs)))
theorem op_catL : OpR X (binaryOp .Add) (rCatL X.K) := by
  intro pins s σ H x y v u Q I rx ry h
  obtain ⟨l, b, xs, zs, rfl, rfl, hH, hB, hz, q⟩ := h
  cases rx
  cases ry
  obtain ⟨z, its, n, r, hl, e⟩ := isL I hH
  obtain ⟨z2, its2, n2, r2, hl2, e2⟩ := isL I hB
  refine PySem.P.add_list e e2 ?_ (by rw [List.size_toArray, List.size_toArray]; omega)
  have ea : its.toArray ++ its2.toArray = (its ++ its2).toArray := by simp
  rw [ea]
  exact ⟨.ref _, _, I.lnew (t' := s.toks) (r.append r2) (by rw [List.length_append]; omega), rfl, q _ I.fresh⟩
def rRepL (K : PySem.W.Frag) : R2 := fun x y H Q => ∃ l k xs, x = .ref l ∧ y = .int k ∧ LsA K H l xs ∧ -(2 ^ 63) ≤ k ∧ k < 2 ^ 63 ∧ xs.length * k.toNat ≤ sizeLine ∧
  ∀ p, H p = none → Q (.ref p) (upd H p (.lst (List.replicate k.toNat xs).flatten))
theorem op_repL : OpR X (binaryOp .Mult) (rRepL X.K) := by
  intro pins s σ H x y v u Q I rx ry h
  obtain ⟨l, k, xs, rfl, rfl, hH, h1, h2, hz, q⟩ := h
  cases rx
  obtain ⟨t, rfl⟩ := ry
  obtain ⟨z, its, n, r, hl, e⟩ := isL I hH
  have hlen : its.toArray.size * k.toNat ≤ sizeLine := by rw [List.size_toArray, ← hl]; exact hz
  have hcap : ¬ its.toArray.size * k.toNat > (2 ^ 63 - 1) / 8 := by
    have : (sizeLine : Nat) ≤ (2 ^ 63 - 1) / 8 := by decide
    omega
  have hfit : ¬ (!Builtin.List.listFitsIndex k) = true := by
    rw [fitsIndex_both h1 h2]
    exact Bool.false_ne_true
  have hlong : ¬ Builtin.List.listTooLong (its.toArray.size * k.toNat) = true := by
    rw [notLongL hlen]
    exact Bool.false_ne_true
  have hnew : List.foldl (fun x1 x2 => x1 ++ x2) #[] (List.replicate (if its.toArray.isEmpty = true then 0 else k.toNat) its.toArray) = (List.replicate k.toNat its).flatten.toArray := by
    have f0 : ∀ m : Nat, List.foldl (fun x1 x2 => x1 ++ x2) #[] (List.replicate m its.toArray) = (List.replicate m its).flatten.toArray := fun m => by
      have := foldl_rep its m []
      rw [List.nil_append] at this
      exact this
    rw [f0]
    cases its with
    | nil => simp
    | cons a r' => rw [if_neg (by simp)]
  refine wpAny_binaryOp_repeat_ref (T := "list") (U := "int") (by decide) ⟨_, e, rfl⟩ (fun s' => typeIs_int s' k t) noFill_list_mul F.fills_int_mul F.slot_int_rmul repeat_list F.slot_int_index.lookup
    (call_meets F.slot_int_rmul (typeIs_int s k t) F.entry_int_rmul (F.args_int_rmul_2 _ _) (int___rmul___int_list k t l its.toArray n)
      ⟨e, rfl, ⟨_, e, rfl⟩, call_meets F.slot_list_mul ⟨_, e, rfl⟩ F.entry_list_mul (F.args_list_mul_2 _ _) (AutoListH.list___mul___list_int_3 l its.toArray n k t hfit hcap hlong) ⟨e, ?_⟩⟩)
  rw [hnew]
  exact ⟨.ref _, _, I.lnew (t' := s.toks) (r.rep k.toNat) (by rw [PyProof.Rows.lm_len_rep_flat, Nat.mul_comm]; exact hz), rfl, q _ I.fresh⟩
theorem foldl_S (s : List Nat) : ∀ (k : Nat) (acc : List Nat), (List.replicate k s.toArray).foldl (· ++ ·) acc.toArray = (acc ++ (List.replicate k s).flatten).toArray
  | 0, acc => by simp
  | k + 1, acc => by
    have e : acc.toArray ++ s.toArray = (acc ++ s).toArray := by simp
    rw [List.replicate_succ, List.foldl_cons, e, foldl_S s k, List.replicate_succ, List.flatten_cons, List.append_assoc]
def rRepS : R2 := fun x y H Q => ∃ s k, x = .str (S s) ∧ y = .int k ∧ 0 ≤ k ∧ k < 2 ^ 63 ∧ s.length ≤ 16777216 ∧ s.length * k.toNat ≤ 16777216 ∧ Q (.str (S (List.replicate k.toNat s).flatten)) H
theorem op_repS : OpR X (binaryOp .Mult) rRepS := by
  intro pins s σ H x y v u Q I rx ry h
  obtain ⟨l, k, rfl, rfl, h1, h2, h3, hz, q⟩ := h
  obtain ⟨t, rfl⟩ := rx
  obtain ⟨t', rfl⟩ := ry
  have hlen : (S l).length = l.length := by simp [S, Str.length]
  refine PySem.P.mul_str (by simp; omega) (fun a b => ?_) (fun a b => ?_) ?_
  · have hk : 1 ≤ k := by omega
    rw [hlen]
    have : (16777216 : Int) ≤ (2 ^ 63 - 1) / k ∨ ¬ (16777216 : Int) ≤ (2 ^ 63 - 1) / k := by omega
    intro hgt
    have h5 : (l.length : Int) * k ≤ 16777216 := by
      have e : ((l.length * k.toNat : Nat) : Int) = (l.length : Int) * k := by rw [Int.natCast_mul, Int.toNat_of_nonneg (by omega)]
      omega
    have h6 : ((2 : Int) ^ 63 - 1) / k < l.length := by omega
    have h7 := (Int.ediv_lt_iff_lt_mul (by omega : 0 < k)).mp h6
    omega
  · rw [hlen]
    unfold Builtin.Str.tooLong
    have := sizeLine_eq
    simp
    omega
  · by_cases hk : k < 1
    · rw [if_pos hk]
      have e0 : k = 0 := by omega
      subst e0
      exact ⟨by decide, ⟨.str _, H, I.tok _, ⟨_, rfl⟩, q⟩⟩
    · rw [if_neg hk]
      by_cases hb : (k == 1 || (S l).length == 0) = true
      · rw [if_pos hb]
        rw [hlen] at hb
        simp only [Bool.or_eq_true, beq_iff_eq] at hb
        have e : (List.replicate k.toNat l).flatten = l := by
          rcases hb with e1 | e2
          · subst e1; simp
          · have : l = [] := List.eq_nil_of_length_eq_zero e2
            subst this
            simp
        rw [e] at q
        exact ⟨.str _, H, I, ⟨_, rfl⟩, q⟩
      · rw [if_neg hb]
        have e := foldl_S l k.toNat []
        rw [List.nil_append] at e
        have e2 : (List.replicate k.toNat (S l).cps).foldl (· ++ ·) #[] = ((List.replicate k.toNat l).flatten).toArray := e
        rw [e2]
        refine ⟨?_, ⟨.str _, H, I.tok _, ⟨_, rfl⟩, q⟩⟩
        show (List.replicate k.toNat l).flatten.toArray.size ≤ sizeLine
        rw [List.size_toArray, PyProof.Rows.lm_len_rep_flat, Nat.mul_comm, sizeLine_eq]
        exact hz

theorem okS_app {a b : List Nat} (ha : okS a) (hb : okS b) (h : a.length + b.length ≤ 16777216) : okS (a ++ b) :=
  ⟨by rw [List.length_append]; exact h, fun c hc => (List.mem_append.mp hc).elim (ha.2 c) (hb.2 c)⟩
theorem okS_sub {a b : List Nat} (ha : okS a) (h : b.Sublist a) : okS b := ⟨Nat.le_trans h.length_le ha.1, fun c hc => ha.2 c (h.subset hc)⟩
theorem okS_rep {a : List Nat} (ha : okS a) {k : Nat} (h : a.length * k ≤ 16777216) : okS (List.replicate k a).flatten :=
  ⟨by rw [PyProof.Rows.lm_len_rep_flat, Nat.mul_comm]; exact h, fun c hc => by
    obtain ⟨l, hl, hc⟩ := List.mem_flatten.mp hc
    rw [(List.mem_replicate.mp hl).2] at hc
    exact ha.2 c hc⟩
theorem RepVs.rep {xs : List PV} {vs : List V} (h : RepVs D G xs vs) : ∀ k : Nat, RepVs D G (List.replicate k xs).flatten (List.replicate k vs).flatten
  | 0 => rfl
  | k + 1 => by
    rw [List.replicate_succ, List.replicate_succ, List.flatten_cons, List.flatten_cons]
    exact RepVs.app h (RepVs.rep h k)
theorem len_S {s : List Nat} : (S s).length = s.length := by simp [S, Str.length]
theorem grd_some {α : Type} {p : Prop} [Decidable p] {a b : α} (h : grd p a = some b) : p ∧ a = b := by
  unfold grd at h
  by_cases hp : p
  · rw [if_pos hp] at h
    exact ⟨hp, Option.some.inj h⟩
  · rw [if_neg hp] at h; cases h
def opOf : BO → Operator
  | .add => .Add | .sub => .Sub | .mul => .Mult | .fdiv => .FloorDiv | .mod => .Mod | .pow => .Pow
  | .shl => .LShift | .shr => .RShift | .band => .BitAnd | .bor => .BitOr | .bxor => .BitXor
theorem small64 {j : Int} (h : 0 < j ∧ j < 18446744073709551616) : CDivW 0 j := ⟨h.1, by
  have h1 : j.natAbs < 2 ^ 64 := by omega
  exact Nat.lt_of_lt_of_le (PySem.Flt.log2_lt_of (by decide) h1) (by decide)⟩
theorem tup_app {pins : List (Addr × Obj)} {σ : L2.St} {s : Shared} {v u : Value} {Q : VK} {xs ys : List PV} {x y : V} (e : D.K = X.K) (I : Inv X pins σ H s) (rx : RelV x v) (ry : RelV y u) (sub : ∀ b o, G b = some o → H b = some o)
    (ra : RdE D G H (.tup xs) x) (rb : RdE D G H (.tup ys) y) (hz : xs.length + ys.length ≤ SZ) (q : ∀ v H' G', Made D G H true (.tup (xs ++ ys)) v H' G' → Q v H') :
    wpAny (model X.prog X.w) X.A (binaryOp .Add v u) (EP X pins σ Q) X.xe s := by
  obtain ⟨a, vs, rfl, ha, r1⟩ := ra.tup
  obtain ⟨b, us, rfl, hb, r2⟩ := rb.tup
  have ha2 : SqT X.K G a vs := e ▸ ha.sq
  have hb2 : SqT X.K G b us := e ▸ hb.sq
  refine op_catA pins s σ H _ _ v u Q I rx ry ⟨a, b, vs, us, rfl, rfl, sqT_mono sub ha2, sqT_mono sub hb2, by rw [← r1.length, ← r2.length, sizeLine_eq]; exact hz, fun h0 => ?_, fun h0 h1 => ?_, fun h0 h1 p hp => ?_⟩
  · have : xs = [] := List.eq_nil_of_length_eq_zero (by rw [r1.length, h0]; rfl)
    subst this
    exact q _ _ _ (.old ⟨b, us, rfl, hb, r2⟩ fun _ => rfl)
  · have : ys = [] := List.eq_nil_of_length_eq_zero (by rw [r2.length, h1]; rfl)
    subst this
    rw [List.append_nil] at q
    exact q _ _ _ (.old ⟨a, vs, rfl, ha, r1⟩ fun _ => rfl)
  · exact q _ _ _ (.tup hp (r1.app r2))
theorem op_bop (e : D.K = X.K) (op : BO) : OpR X (binaryOp (opOf op)) (fun x y H Q => ∃ G pa pb res, (∀ b o, G b = some o → H b = some o) ∧ RdE D G H pa x ∧ RdE D G H pb y ∧ bop op pa pb = some res ∧ ∀ v H' G', Made D G H true res v H' G' → Q v H') := by
  intro pins s σ H x y v u Q I rx ry h
  obtain ⟨G, pa, pb, res, sub, ra, rb, hb, q⟩ := h
  unfold bop at hb
  split at hb
  · cases hb
    cases ra.int; cases rb.int
    exact op_add pins s σ H _ _ v u Q I rx ry ⟨_, _, rfl, rfl, q _ _ _ (.old rfl fun _ => rfl)⟩
  · obtain ⟨hz, rfl⟩ := grd_some hb
    obtain ⟨o1, rfl⟩ := ra.str
    obtain ⟨o2, rfl⟩ := rb.str
    refine op_add_str pins s σ H _ _ v u Q I rx ry ⟨_, _, rfl, rfl, by rw [len_S, len_S, sizeLine_eq]; exact hz, ?_⟩
    have := q _ _ _ (.old (v := .str (S (_ ++ _))) ⟨okS_app o1 o2 hz, rfl⟩ fun _ => rfl)
    have e2 : ∀ a b : List Nat, S a ++ S b = S (a ++ b) := fun a b => by
      show (⟨a.toArray ++ b.toArray⟩ : Str) = ⟨(a ++ b).toArray⟩
      simp
    rw [e2]
    exact this
  · obtain ⟨hz, rfl⟩ := grd_some hb
    obtain ⟨a, vs, rfl, ha, r1⟩ := ra.lst sub
    obtain ⟨b, us, rfl, hb, r2⟩ := rb.lst sub
    rw [e] at ha hb
    exact op_catL pins s σ H _ _ v u Q I rx ry ⟨a, b, vs, us, rfl, rfl, ha, hb, by rw [← r1.length, ← r2.length, sizeLine_eq]; exact hz, fun p hp => q _ _ _ (.lst hp (r1.app r2))⟩
  · obtain ⟨hz, rfl⟩ := grd_some hb
    exact tup_app e I rx ry sub ra rb hz q
  · cases hb
    cases ra.int; cases rb.int
    exact op_sub pins s σ H _ _ v u Q I rx ry ⟨_, _, rfl, rfl, q _ _ _ (.old rfl fun _ => rfl)⟩
  · obtain ⟨hz, rfl⟩ := grd_some hb
    cases ra.int; cases rb.int
    exact op_mul pins s σ H _ _ v u Q I rx ry ⟨_, _, rfl, rfl, hz, q _ _ _ (.old rfl fun _ => rfl)⟩
  · obtain ⟨⟨hs, h1, h2, hz⟩, rfl⟩ := grd_some hb
    obtain ⟨a, vs, rfl, ha, r1⟩ := ra.lst sub
    cases rb.int
    rw [e] at ha
    exact op_repL pins s σ H _ _ v u Q I rx ry ⟨a, _, vs, rfl, rfl, ha, h1, h2, by rw [← r1.length, sizeLine_eq]; exact hz, fun p hp => q _ _ _ (.lst hp (r1.rep _))⟩
  · obtain ⟨⟨h1, h2, hz⟩, rfl⟩ := grd_some hb
    obtain ⟨o1, rfl⟩ := ra.str
    cases rb.int
    exact op_repS pins s σ H _ _ v u Q I rx ry ⟨_, _, rfl, rfl, h1, h2, o1.1, hz, q _ _ _ (.old ⟨okS_rep o1 hz, rfl⟩ fun _ => rfl)⟩
  · obtain ⟨hz, rfl⟩ := grd_some hb
    cases ra.int; cases rb.int
    exact op_fdivW pins s σ H _ _ v u Q I rx ry ⟨_, _, rfl, rfl, small64 hz, q _ _ _ (.old rfl fun _ => rfl)⟩
  · obtain ⟨hz, rfl⟩ := grd_some hb
    cases ra.int; cases rb.int
    exact op_mod pins s σ H _ _ v u Q I rx ry ⟨_, _, rfl, rfl, hz, q _ _ _ (.old rfl fun _ => rfl)⟩
  · obtain ⟨⟨h1, h2, h3⟩, rfl⟩ := grd_some hb
    cases ra.int; cases rb.int
    exact op_pow pins s σ H _ _ v u Q I rx ry ⟨_, _, rfl, rfl, ⟨h1, h2, by unfold small at h3; omega⟩, q _ _ _ (.old rfl fun _ => rfl)⟩
  · obtain ⟨⟨h1, h2, h3⟩, rfl⟩ := grd_some hb
    cases ra.int; cases rb.int
    exact op_shl pins s σ H _ _ v u Q I rx ry ⟨_, _, rfl, rfl, ⟨h1, h2, by unfold small at h3; omega⟩, q _ _ _ (.old rfl fun _ => rfl)⟩
  · obtain ⟨hz, rfl⟩ := grd_some hb
    cases ra.int; cases rb.int
    exact op_shr pins s σ H _ _ v u Q I rx ry ⟨_, _, rfl, rfl, hz, q _ _ _ (.old rfl fun _ => rfl)⟩
  · obtain ⟨⟨h1, h2⟩, rfl⟩ := grd_some hb
    cases ra.int; cases rb.int
    refine op_and pins s σ H _ _ v u Q I rx ry ⟨_, _, rfl, rfl, ?_⟩
    show Q (.int (Builtin.bitAnd _ _)) H
    rw [bitAnd_pp h1 h2]
    exact q _ _ _ (.old rfl fun _ => rfl)
  · obtain ⟨⟨h1, h2⟩, rfl⟩ := grd_some hb
    cases ra.int; cases rb.int
    refine op_or pins s σ H _ _ v u Q I rx ry ⟨_, _, rfl, rfl, ?_⟩
    show Q (.int (Builtin.bitOr _ _)) H
    rw [Bits.bitOr_pp h1 h2]
    exact q _ _ _ (.old rfl fun _ => rfl)
  · obtain ⟨⟨h1, h2⟩, rfl⟩ := grd_some hb
    cases ra.int; cases rb.int
    refine op_xor pins s σ H _ _ v u Q I rx ry ⟨_, _, rfl, rfl, ?_⟩
    show Q (.int (Builtin.bitXor _ _)) H
    rw [Bits.bitXor_pp h1 h2]
    exact q _ _ _ (.old rfl fun _ => rfl)
  · cases hb
end
end Ev

/-! Ev4: comparisons, places, slices, built-in calls by values. -/
namespace Ev
open PySem PySem.Spec PyProof.Rows L2

/-! ### plain values as the library's data -/
mutual
def toD : PV → PyData
  | .non => .none
  | .bl b => .bool b
  | .int i => .int i
  | .str s => .str (S s)
  | .lst xs => .list (toDs xs)
  | .tup xs => .tuple (toDs xs)
  | .dic _ _ _ => .dict []
  | .fn _ => .dict []
  | .obj _ _ => .dict []
def toDs : List PV → List PyData
  | [] => []
  | x :: xs => toD x :: toDs xs
end
theorem toDs_map : ∀ xs : List PV, toDs xs = xs.map toD
  | [] => rfl
  | x :: xs => by simp [toDs, toDs_map xs]
theorem S_inj {a b : List Nat} : (S a == S b) = (a == b) := by
  by_cases h : a = b
  · subst h; simp
  · have h2 : ¬ S a = S b := fun e => h (by have := congrArg (fun z : Str => z.cps.toList) e; simpa [S] using this)
    rw [beq_eq_false_iff_ne.mpr h, beq_eq_false_iff_ne.mpr h2]
mutual
theorem eqv_toD : ∀ a b : PV, a.dep ≤ 100 → b.dep ≤ 100 → PyData.eqv (toD a) (toD b) = PV.eqv a b
  | .lst xs, b, ha, hb => by
    cases b with
    | lst ys =>
      simp only [PV.dep] at ha hb
      simp only [toD, PyData.eqv, PV.eqv]
      exact eqv_toDs xs ys (by omega) (by omega)
    | dic _ _ _ | fn _ | obj _ _ => simp [PV.dep] at hb
    | _ => simp [toD, PyData.eqv, PV.eqv]
  | .tup xs, b, ha, hb => by
    cases b with
    | tup ys =>
      simp only [PV.dep] at ha hb
      simp only [toD, PyData.eqv, PV.eqv]
      exact eqv_toDs xs ys (by omega) (by omega)
    | dic _ _ _ | fn _ | obj _ _ => simp [PV.dep] at hb
    | _ => simp [toD, PyData.eqv, PV.eqv]
  | .str x, b, ha, hb => by
    cases b with
    | str y => simp only [toD, PyData.eqv, PV.eqv, S_inj]
    | dic _ _ _ | fn _ | obj _ _ => simp [PV.dep] at hb
    | _ => simp [toD, PyData.eqv, PV.eqv]
  | .non, b, ha, hb | .bl _, b, ha, hb | .int _, b, ha, hb => by
    cases b with
    | dic _ _ _ | fn _ | obj _ _ => simp [PV.dep] at hb
    | _ => simp [toD, PyData.eqv, PV.eqv]
  | .dic _ _ _, b, ha, hb | .fn _, b, ha, hb | .obj _ _, b, ha, hb => by simp [PV.dep] at ha
theorem eqv_toDs : ∀ xs ys : List PV, PV.deps xs ≤ 99 → PV.deps ys ≤ 99 → PyData.eqvAll (toDs xs) (toDs ys) = PV.eqvs xs ys
  | [], [], _, _ => rfl
  | [], _ :: _, _, _ => rfl
  | _ :: _, [], _, _ => rfl
  | x :: xs, y :: ys, ha, hb => by
    have h1 : Nat.max x.dep (PV.deps xs) ≤ 99 := ha
    have h2 : Nat.max y.dep (PV.deps ys) ≤ 99 := hb
    have a1 : x.dep ≤ 99 := Nat.le_trans (Nat.le_max_left _ _) h1
    have a2 : PV.deps xs ≤ 99 := Nat.le_trans (Nat.le_max_right _ _) h1
    have b1 : y.dep ≤ 99 := Nat.le_trans (Nat.le_max_left _ _) h2
    have b2 : PV.deps ys ≤ 99 := Nat.le_trans (Nat.le_max_right _ _) h2
    simp only [toDs, PyData.eqvAll, PV.eqvs, eqv_toD x y (by omega) (by omega), eqv_toDs xs ys a2 b2]
end
mutual
theorem depth_toD : ∀ a : PV, a.dep ≤ 100 → (toD a).depth = a.dep
  | .lst xs, h => by
    simp only [PV.dep] at h
    simp only [toD, PyData.depth, PV.dep, depth_toDs xs (by omega)]
  | .tup xs, h => by
    simp only [PV.dep] at h
    simp only [toD, PyData.depth, PV.dep, depth_toDs xs (by omega)]
  | .str x, _ => by simp [toD, PyData.depth, PV.dep]
  | .non, _ => by simp [toD, PyData.depth, PV.dep]
  | .bl _, _ => by simp [toD, PyData.depth, PV.dep]
  | .int _, _ => by simp [toD, PyData.depth, PV.dep]
  | .dic _ _ _, h | .fn _, h | .obj _ _, h => by simp [PV.dep] at h
theorem depth_toDs : ∀ xs : List PV, PV.deps xs ≤ 99 → PyData.depthAll (toDs xs) = PV.deps xs
  | [], _ => by simp [toDs, PyData.depthAll, PV.deps]
  | x :: xs, h => by
    have h1 : Nat.max x.dep (PV.deps xs) ≤ 99 := h
    have a1 : x.dep ≤ 99 := Nat.le_trans (Nat.le_max_left _ _) h1
    have a2 : PV.deps xs ≤ 99 := Nat.le_trans (Nat.le_max_right _ _) h1
    simp only [toDs, PyData.depthAll, PV.deps, depth_toD x (by omega), depth_toDs xs a2]
end
theorem strOk_S {s : List Nat} (h : okS s) : PyData.strOk (S s) = true := by
  unfold PyData.strOk
  simp only [S, List.all_toArray, List.all_eq_true, decide_eq_true_eq]
  exact fun c hc => h.2 c hc
section
variable {D : Dm} {G H : Hp}
mutual
theorem lay_toD : ∀ {a : PV} {v : V}, RepV D G a v → a.dep ≤ 100 → (toD a).canLay0 = true
  | .lst xs, v, r, h => by
    obtain ⟨_, _, _, _, r⟩ := r
    simp only [PV.dep] at h
    simp only [toD, PyData.canLay0]
    exact lay_toDs r (by omega)
  | .tup xs, v, r, h => by
    obtain ⟨_, _, _, _, r⟩ := r
    simp only [PV.dep] at h
    simp only [toD, PyData.canLay0]
    exact lay_toDs r (by omega)
  | .str x, v, r, h => by simp only [toD, PyData.canLay0, strOk_S r.1]
  | .non, _, _, _ => by simp [toD, PyData.canLay0]
  | .bl _, _, _, _ => by simp [toD, PyData.canLay0]
  | .int _, _, _, _ => by simp [toD, PyData.canLay0]
  | .dic _ _ _, _, _, h | .fn _, _, _, h | .obj _ _, _, _, h => by simp [PV.dep] at h
theorem lay_toDs : ∀ {xs : List PV} {vs : List V}, RepVs D G xs vs → PV.deps xs ≤ 99 → PyData.canLayAll0 (toDs xs) = true
  | [], _, _, _ => by simp [toDs, PyData.canLayAll0]
  | x :: xs, _, r, h => by
    obtain ⟨v, rr, _, r1, r2⟩ := r
    have h1 : Nat.max x.dep (PV.deps xs) ≤ 99 := h
    have a1 : x.dep ≤ 99 := Nat.le_trans (Nat.le_max_left _ _) h1
    have a2 : PV.deps xs ≤ 99 := Nat.le_trans (Nat.le_max_right _ _) h1
    simp only [toDs, PyData.canLayAll0, lay_toD r1 (by omega), lay_toDs r2 a2, Bool.and_self]
end
mutual
theorem dp_toD : ∀ {a : PV} {v : V}, RepV D G a v → a.dep ≤ 100 → Dp D.K G v (toD a)
  | .lst xs, v, r, h => by
    obtain ⟨a, vs, rfl, q, r⟩ := r
    simp only [PV.dep] at h
    simp only [toD]
    exact .lst q.sq (dp_toDs r (by omega))
  | .tup xs, v, r, h => by
    obtain ⟨a, vs, rfl, q, r⟩ := r
    simp only [PV.dep] at h
    simp only [toD]
    exact .tup q.sq (dp_toDs r (by omega))
  | .str x, v, r, h => by
    rw [r.2]
    exact .str _
  | .non, v, r, _ => by
    rw [show v = .non from r]
    exact .non
  | .bl b, v, r, _ => by
    rw [show v = .bl b from r]
    exact .bl b
  | .int b, v, r, _ => by
    rw [show v = .int b from r]
    exact .int b
  | .dic _ _ _, _, _, h | .fn _, _, _, h | .obj _ _, _, _, h => by simp [PV.dep] at h
theorem dp_toDs : ∀ {xs : List PV} {vs : List V}, RepVs D G xs vs → PV.deps xs ≤ 99 → DpAll D.K G vs (toDs xs)
  | [], _, r, _ => by
    rw [show _ = [] from r]
    exact .nil
  | x :: xs, _, r, h => by
    obtain ⟨v, rr, e, r1, r2⟩ := r
    have h1 : Nat.max x.dep (PV.deps xs) ≤ 99 := h
    have a1 : x.dep ≤ 99 := Nat.le_trans (Nat.le_max_left _ _) h1
    have a2 : PV.deps xs ≤ 99 := Nat.le_trans (Nat.le_max_right _ _) h1
    rw [e]
    exact .cons (dp_toD r1 (by omega)) (dp_toDs r2 a2)
end
theorem shaped_toD {a : PV} {v : V} (r : RepV D G a v) (h : a.dep ≤ 60) : SeqAt.shaped (toD a) = true := by
  unfold SeqAt.shaped
  rw [lay_toD r (by omega), depth_toD a (by omega)]
  simp
  omega
theorem any_toDs (a : PV) (ha : a.dep ≤ 100) : ∀ ys : List PV, PV.deps ys ≤ 99 → (toDs ys).any (fun z => PyData.eqv z (toD a)) = ys.any fun y => PV.eqv y a
  | [], _ => rfl
  | y :: ys, h => by
    have h1 : Nat.max y.dep (PV.deps ys) ≤ 99 := h
    have a1 : y.dep ≤ 99 := Nat.le_trans (Nat.le_max_left _ _) h1
    have a2 : PV.deps ys ≤ 99 := Nat.le_trans (Nat.le_max_right _ _) h1
    simp only [toDs, List.any_cons, any_toDs a ha ys a2, eqv_toD y a (by omega) ha]
end
theorem lt_ltS : ∀ a b : List Nat, decide (a < b) = ltS a b
  | [], [] => by decide
  | [], _ :: _ => by simp [ltS]
  | _ :: _, [] => by simp [ltS]
  | x :: xs, y :: ys => by
    have ih := lt_ltS xs ys
    simp only [ltS]
    by_cases h : x = y
    · subst h
      rw [if_pos rfl, ← ih]
      simp [List.cons_lt_cons_iff]
    · rw [if_neg h]
      simp [List.cons_lt_cons_iff, h]

section
variable {X : Cx} {D : Dm} {G H : Hp}
theorem non_iff {x : V} {a : PV} (r : RepV D G a x) : decide (x = V.non) = a.isNon := by
  cases a with
  | non =>
    rw [show x = .non from r]
    rfl
  | bl b =>
    rw [show x = .bl b from r]
    rfl
  | int i =>
    rw [show x = .int i from r]
    rfl
  | str s =>
    rw [r.2]
    rfl
  | lst xs =>
    obtain ⟨a, vs, rfl, _⟩ := r
    rfl
  | tup xs =>
    obtain ⟨a, vs, rfl, _⟩ := r
    rfl
  | dic _ _ _ =>
    obtain ⟨a, vs, rfl, _⟩ := r
    rfl
  | fn i =>
    rw [show x = .ref (D.fa i) from r]
    rfl
  | obj _ _ =>
    obtain ⟨a, vs, rfl, _⟩ := r
    rfl
def cOf : CO → CmpOp
  | .eq => .Eq | .ne => .NotEq | .lt => .Lt | .le => .LtE | .gt => .Gt | .ge => .GtE | .is => .Is | .isn => .IsNot | .inn => .In | .nin => .NotIn
theorem eqD_some {a b : PV} {r : Bool} (h : eqD a b = some r) : a.dep ≤ 60 ∧ b.dep ≤ 60 ∧ r = PV.eqv a b := by
  unfold eqD at h
  split at h
  · rename_i hh
    exact ⟨hh.1, hh.2, (Option.some.inj h).symm⟩
  · cases h
theorem op_inT (hu : X.A.units + 65 < cLine) (neg : Bool) : OpR X (compareOp (if neg then .NotIn else .In)) (fun x y H Q => ∃ d ds, Dp X.K H x d ∧ Dp X.K H y (.tuple ds) ∧ SeqAt.shaped d = true ∧ SeqAt.shaped (.tuple ds) = true ∧ Q (.bl (if neg then !ds.any fun z => PyData.eqv z d else ds.any fun z => PyData.eqv z d)) H) := by
  intro pins s σ H x y v u Q I rx ry h
  obtain ⟨d, ds, hd, he, sd, se, q⟩ := h
  obtain ⟨as, r1⟩ := Dp.reads I d x v hd rx
  obtain ⟨bs, r2⟩ := Dp.reads I (.tuple ds) y u he ry
  cases neg with
  | false => exact SeqAt.in_tuple_reads r2 r1 (SeqAt.canLay_of_shaped se) (SeqAt.canLay_of_shaped sd) (room_in_shaped sd hu) ⟨.bl _, H, I, rfl, q⟩
  | true => exact SeqAt.notIn_tuple_reads r2 r1 (SeqAt.canLay_of_shaped se) (SeqAt.canLay_of_shaped sd) (room_in_shaped sd hu) ⟨.bl _, H, I, rfl, q⟩
theorem ltI_lex : ∀ a b : List Int, ltI a b = HT.lexLt a b
  | [], [] => rfl
  | [], _ :: _ => rfl
  | _ :: _, [] => rfl
  | x :: xs, y :: ys => by
    rw [ltI, HT.lexLt_cons, ltI_lex xs ys]
/-! ### dicts -/
theorem S_injE {a b : List Nat} (h : S a = S b) : a = b := by
  have := congrArg (fun x : Str => x.cps.toList) h
  simpa using this
theorem keyR_eqv : ∀ {x y : PV} {k l : L2.Key}, keyR x k → keyR y l → PV.eqv x y = decide (k = l)
  | .int i, .int j, k, l, h, g => by
    obtain rfl : k = .inl i := h
    obtain rfl : l = .inl j := g
    show (i == j) = _
    by_cases q : i = j
    · subst q; simp
    · have : ¬ (Sum.inl i : L2.Key) = .inl j := fun e => q (Sum.inl.inj e)
      rw [decide_eq_false this]; simpa using q
  | .str s, .str t, k, l, h, g => by
    obtain ⟨_, rfl⟩ := h
    obtain ⟨_, rfl⟩ := g
    show (s == t) = _
    by_cases q : s = t
    · subst q; simp
    · have : ¬ (Sum.inr (S s) : L2.Key) = .inr (S t) := fun e => q (S_injE (Sum.inr.inj e))
      rw [decide_eq_false this]; simpa using q
  | .int i, .str t, k, l, h, g => by
    obtain rfl : k = .inl i := h
    obtain ⟨_, rfl⟩ := g
    rfl
  | .str s, .int j, k, l, h, g => by
    obtain ⟨_, rfl⟩ := h
    obtain rfl : l = .inl j := g
    rfl
  | .non, _, _, _, h, _ | .bl _, _, _, _, h, _ | .lst _, _, _, _, h, _ | .tup _, _, _, _, h, _ | .dic _ _ _, _, _, _, h, _ | .fn _, _, _, _, h, _ | .obj _ _, _, _, _, h, _ => h.elim
  | .int _, .non, _, _, _, h | .int _, .bl _, _, _, _, h | .int _, .lst _, _, _, _, h | .int _, .tup _, _, _, _, h | .int _, .dic _ _ _, _, _, _, h | .int _, .fn _, _, _, _, h | .int _, .obj _ _, _, _, _, h => h.elim
  | .str _, .non, _, _, _, h | .str _, .bl _, _, _, _, h | .str _, .lst _, _, _, _, h | .str _, .tup _, _, _, _, h | .str _, .dic _ _ _, _, _, _, h | .str _, .fn _, _, _, _, h | .str _, .obj _ _, _, _, _, h => h.elim
theorem keysR_eqv : ∀ {xs ys : List PV} {k l : List L2.Key}, keysR xs k → keysR ys l → PV.eqvs xs ys = decide (k = l)
  | [], [], k, l, h, g => by
    have e1 : k = [] := h
    have e2 : l = [] := g
    rw [e1, e2]; rfl
  | [], y :: ys, k, l, h, g => by
    have e1 : k = [] := h
    obtain ⟨b, r, e2, _⟩ := g
    rw [e1, e2]; rfl
  | x :: xs, [], k, l, h, g => by
    obtain ⟨b, r, e2, _⟩ := h
    have e1 : l = [] := g
    rw [e1, e2]; rfl
  | x :: xs, y :: ys, k, l, h, g => by
    obtain ⟨a, r, rfl, h1, h2⟩ := h
    obtain ⟨b, r', rfl, g1, g2⟩ := g
    show (PV.eqv x y && PV.eqvs xs ys) = _
    rw [keyR_eqv h1 g1, keysR_eqv h2 g2]
    by_cases q : a = b <;> by_cases w : r = r' <;> simp [q, w]
theorem tkR_eqv : ∀ {x y : PV} {k l : List L2.Key}, tkR x k → tkR y l → PV.eqv x y = decide (k = l)
  | .tup xs, .tup ys, k, l, h, g => keysR_eqv h g
  | .non, _, _, _, h, _ | .bl _, _, _, _, h, _ | .lst _, _, _, _, h, _ | .int _, _, _, _, h, _ | .str _, _, _, _, h, _ | .dic _ _ _, _, _, _, h, _ | .fn _, _, _, _, h, _ | .obj _ _, _, _, _, h, _ => h.elim
  | .tup _, .non, _, _, _, h | .tup _, .bl _, _, _, _, h | .tup _, .lst _, _, _, _, h | .tup _, .int _, _, _, _, h | .tup _, .str _, _, _, _, h | .tup _, .dic _ _ _, _, _, _, h | .tup _, .fn _, _, _, _, h | .tup _, .obj _ _, _, _, _, h => h.elim
/-- a key as it stands -/
theorem isKey_R : ∀ {x : PV} {v : V}, isKey x = true → RepV D G x v → ∃ k, v = L2.kV k ∧ keyR x k
  | .int i, v, _, h => ⟨.inl i, h, rfl⟩
  | .str s, v, _, h => ⟨.inr (S s), h.2, h.1, rfl⟩
  | .non, _, h, _ | .bl _, _, h, _ | .lst _, _, h, _ | .tup _, _, h, _ | .dic _ _ _, _, h, _ | .fn _, _, h, _ | .obj _ _, _, h, _ => by cases h
theorem isKeys_R : ∀ {xs : List PV} {vs : List V}, xs.all isKey = true → RepVs D G xs vs → ∃ k : List L2.Key, vs = k.map L2.kV ∧ keysR xs k
  | [], vs, _, h => ⟨[], h, rfl⟩
  | x :: xs, vs, q, h => by
    rw [List.all_cons, Bool.and_eq_true] at q
    obtain ⟨v, r, rfl, h1, h2⟩ := h
    obtain ⟨k, rfl, h3⟩ := isKey_R q.1 h1
    obtain ⟨l, rfl, h4⟩ := isKeys_R q.2 h2
    exact ⟨k :: l, rfl, k, l, rfl, h3, h4⟩
def Paired' {κ : Type} (R : PV → κ → Prop) : List PV → List κ → Prop
  | [], [] => True
  | x :: xs, k :: ks => R x k ∧ Paired' R xs ks
  | _, _ => False
theorem keysR_P : ∀ {xs : List PV} {k : List L2.Key}, keysR xs k → Paired' keyR xs k
  | [], k, h => by
    have e : k = [] := h
    rw [e]; trivial
  | x :: xs, k, h => by
    obtain ⟨a, r, rfl, h1, h2⟩ := h
    exact ⟨h1, keysR_P h2⟩
theorem tksR_P : ∀ {xs : List PV} {k : List (List L2.Key)}, tksR xs k → Paired' tkR xs k
  | [], k, h => by
    have e : k = [] := h
    rw [e]; trivial
  | x :: xs, k, h => by
    obtain ⟨a, r, rfl, h1, h2⟩ := h
    exact ⟨h1, tksR_P h2⟩
/-- two values at a place: there, or not there -/
def RelO2 (D : Dm) (G : Hp) : Option PV → Option V → Prop
  | some x, some v => RepV D G x v
  | none, none => True
  | _, _ => False
theorem look_rel {κ : Type} [DecidableEq κ] (R : PV → κ → Prop) {x : PV} {key : κ} (he : ∀ k kk, R k kk → PV.eqv k x = decide (kk = key)) : ∀ {ks xs : List PV} {kk : List (κ × V)}, Paired' R ks (kk.map (·.1)) → RepVs D G xs (kk.map (·.2)) → RelO2 D G (dlook ks xs x) (L2.valV kk key)
  | [], xs, kk, h, g => by
    have e : kk = [] := by cases kk with | nil => rfl | cons _ _ => exact h.elim
    subst e
    rw [dlook]
    · trivial
    · intros; contradiction
  | k :: ks, [], kk, h, g => by
    have e : kk = [] := List.map_eq_nil_iff.mp g
    subst e
    exact h.elim
  | k :: ks, v :: xs, [], h, g => h.elim
  | k :: ks, v :: xs, p :: kk, h, g => by
    obtain ⟨h1, h2⟩ := h
    obtain ⟨w, r, e, g1, g2⟩ := g
    have e1 : p.2 = w := (List.cons.inj e).1
    have e2 : kk.map (·.2) = r := (List.cons.inj e).2
    subst e1 e2
    rw [dlook, he k p.1 h1]
    by_cases q : p.1 = key
    · rw [decide_eq_true q, if_pos rfl, L2.valV_pos q]
      exact g1
    · rw [decide_eq_false q, if_neg (by decide), L2.valV_neg q]
      exact look_rel R he h2 g2
/-- what a dict holds at a key -/
theorem dget_ok (sub : ∀ b o, G b = some o → H b = some o) {b : Bool} {ks xs : List PV} {us : List V} {a : Addr} {k : PV} {y : V} (d : DcA D H a b ks us) (r : RepVs D G xs us) (rk : RepV D G k y) (hk : isKeyB b k = true) : ∃ o, L2.DGet H a y o ∧ RelO2 D G (dlook ks xs k) o := by
  cases b with
  | false =>
    obtain ⟨kk, h1, h2, rfl⟩ := d
    obtain ⟨key, rfl, h3⟩ := isKey_R hk rk
    exact ⟨_, L2.DGet.k h1, look_rel keyR (fun _ _ h => keyR_eqv h h3) (keysR_P h2) r⟩
  | true =>
    obtain ⟨h0, kk, h1, h2, rfl⟩ := d
    cases k <;> try (cases hk)
    rename_i zs
    obtain ⟨p, vs, rfl, q, rz⟩ := rk
    rcases q with q | ⟨q, _⟩
    · obtain ⟨key, rfl, h3⟩ := isKeys_R (xs := zs) hk rz
      exact ⟨_, L2.DGet.t h1 (sub _ _ q), look_rel tkR (fun _ _ h => tkR_eqv h (show tkR (.tup zs) key from h3)) (tksR_P h2) r⟩
    · rw [h0] at q; cases q
theorem RelO2.isSome {D : Dm} {G : Hp} : ∀ {o : Option PV} {u : Option V}, RelO2 D G o u → u.isSome = o.isSome
  | some _, some _, _ => rfl
  | none, none, _ => rfl
  | some _, none, h => h.elim
  | none, some _, h => h.elim
theorem isKeyB_L : ∀ {b : Bool} {k : PV}, isKeyB b k = true → k.isL = false
  | false, .lst _, h | false, .dic _ _ _, h => by cases h
  | true, .lst _, h | true, .dic _ _ _, h => by cases h
  | _, .non, _ | _, .bl _, _ | _, .int _, _ | _, .str _, _ | _, .tup _, _ | _, .fn _, _ | _, .obj _ _, _ => rfl
theorem op_cop (e : D.K = X.K) (hu : X.A.units + 65 < cLine) (op : CO) : OpR X (compareOp (cOf op)) (fun x y H Q => ∃ G pa pb r, (∀ b o, G b = some o → H b = some o) ∧ RdE D G H pa x ∧ RdE D G H pb y ∧ cop op pa pb = some r ∧ Q (.bl r) H) := by
  intro pins s σ H x y v u Q I rx ry h
  obtain ⟨G, pa, pb, r, sub, ra, rb, hb, q⟩ := h
  have da := ra.rep sub
  have db := rb.rep sub
  unfold cop at hb
  split at hb
  · obtain ⟨h1, h2, rfl⟩ := eqD_some hb
    refine op_eqD (by omega) pins s σ H _ _ v u Q I rx ry ⟨toD _, toD _, e ▸ dp_toD da (by omega), e ▸ dp_toD db (by omega), shaped_toD da h1, shaped_toD db h2, ?_⟩
    rw [eqv_toD _ _ (by omega) (by omega)]
    exact q
  · obtain ⟨r', h3, rfl⟩ := Option.map_eq_some_iff.mp hb
    obtain ⟨h1, h2, rfl⟩ := eqD_some h3
    refine op_neD (by omega) pins s σ H _ _ v u Q I rx ry ⟨toD _, toD _, e ▸ dp_toD da (by omega), e ▸ dp_toD db (by omega), shaped_toD da h1, shaped_toD db h2, ?_⟩
    rw [eqv_toD _ _ (by omega) (by omega)]
    exact q
  · cases hb; cases ra.int; cases rb.int
    exact op_lt pins s σ H _ _ v u Q I rx ry ⟨_, _, rfl, rfl, q⟩
  · cases hb; cases ra.int; cases rb.int
    exact op_le pins s σ H _ _ v u Q I rx ry ⟨_, _, rfl, rfl, q⟩
  · cases hb; cases ra.int; cases rb.int
    exact op_gt pins s σ H _ _ v u Q I rx ry ⟨_, _, rfl, rfl, q⟩
  · cases hb; cases ra.int; cases rb.int
    exact op_ge pins s σ H _ _ v u Q I rx ry ⟨_, _, rfl, rfl, q⟩
  · split at hb
    · rename_i l m h1 h2
      cases hb
      obtain ⟨a, vs, rfl, ha, r1⟩ := ra.tup
      obtain ⟨b, ws, rfl, hb', r2⟩ := rb.tup
      have e1 := r1.asIs h1
      have e2 := r2.asIs h2
      subst e1 e2
      exact op_ltT (by omega) pins s σ H _ _ v u Q I rx ry ⟨a, b, l, m, rfl, rfl, sqT_mono sub (e ▸ ha.sq), sqT_mono sub (e ▸ hb'.sq), by rw [← ltI_lex]; exact q⟩
    · cases hb
  · cases hb
    obtain ⟨_, rfl⟩ := ra.str
    obtain ⟨_, rfl⟩ := rb.str
    exact op_lt_str pins s σ H _ _ v u Q I rx ry ⟨_, _, rfl, rfl, by rw [lt_ltS]; exact q⟩
  · cases hb
    obtain ⟨_, rfl⟩ := ra.str
    obtain ⟨_, rfl⟩ := rb.str
    exact op_le_str pins s σ H _ _ v u Q I rx ry ⟨_, _, rfl, rfl, by rw [lt_ltS]; exact q⟩
  · cases hb
    obtain ⟨_, rfl⟩ := ra.str
    obtain ⟨_, rfl⟩ := rb.str
    exact op_gt_str pins s σ H _ _ v u Q I rx ry ⟨_, _, rfl, rfl, by rw [lt_ltS]; exact q⟩
  · cases hb
    obtain ⟨_, rfl⟩ := ra.str
    obtain ⟨_, rfl⟩ := rb.str
    exact op_ge_str pins s σ H _ _ v u Q I rx ry ⟨_, _, rfl, rfl, by rw [lt_ltS]; exact q⟩
  · cases hb
    refine op_isN pins s σ H _ _ v u Q I rx ry ⟨db, ?_⟩
    rw [show decide (x = V.non) = _ from non_iff da]
    exact q
  · cases hb
    refine op_notN pins s σ H _ _ v u Q I rx ry ⟨db, ?_⟩
    rw [show decide (x = V.non) = _ from non_iff da]
    exact q
  · cases hb
    obtain ⟨_, rfl⟩ := ra.str
    obtain ⟨_, rfl⟩ := rb.str
    exact op_in_sign pins s σ H _ _ v u Q I rx ry ⟨_, _, rfl, rfl, by simpa using q⟩
  · cases hb
    obtain ⟨_, rfl⟩ := ra.str
    obtain ⟨_, rfl⟩ := rb.str
    exact op_notIn_sign pins s σ H _ _ v u Q I rx ry ⟨_, _, rfl, rfl, by simpa using q⟩
  · split at hb
    · rename_i ys hh
      cases hb
      have hd : (PV.lst ys).dep ≤ 60 := by simp only [PV.dep]; omega
      refine op_inD hu pins s σ H _ _ v u Q I rx ry ⟨toD _, toDs ys, e ▸ dp_toD da (by omega), ?_, shaped_toD da (by omega), ?_, ?_⟩
      · have := dp_toD db (by omega)
        simp only [toD] at this
        exact e ▸ this
      · have := shaped_toD db hd
        simpa only [toD] using this
      · rw [any_toDs _ (by omega) ys (by omega)]
        exact q
    · cases hb
  · split at hb
    · rename_i ys hh
      cases hb
      have hd : (PV.lst ys).dep ≤ 60 := by simp only [PV.dep]; omega
      refine op_notInD hu pins s σ H _ _ v u Q I rx ry ⟨toD _, toDs ys, e ▸ dp_toD da (by omega), ?_, shaped_toD da (by omega), ?_, ?_⟩
      · have := dp_toD db (by omega)
        simp only [toD] at this
        exact e ▸ this
      · have := shaped_toD db hd
        simpa only [toD] using this
      · rw [any_toDs _ (by omega) ys (by omega)]
        exact q
    · cases hb
  · split at hb
    · rename_i ys hh
      cases hb
      have hd : (PV.tup ys).dep ≤ 60 := by simp only [PV.dep]; omega
      refine op_inT hu false pins s σ H _ _ v u Q I rx ry ⟨toD _, toDs ys, e ▸ dp_toD da (by omega), ?_, shaped_toD da (by omega), ?_, ?_⟩
      · have := dp_toD db (by omega)
        simp only [toD] at this
        exact e ▸ this
      · have := shaped_toD db hd
        simpa only [toD] using this
      · rw [any_toDs _ (by omega) ys (by omega)]
        exact q
    · cases hb
  · split at hb
    · rename_i ys hh
      cases hb
      have hd : (PV.tup ys).dep ≤ 60 := by simp only [PV.dep]; omega
      refine op_inT hu true pins s σ H _ _ v u Q I rx ry ⟨toD _, toDs ys, e ▸ dp_toD da (by omega), ?_, shaped_toD da (by omega), ?_, ?_⟩
      · have := dp_toD db (by omega)
        simp only [toD] at this
        exact e ▸ this
      · have := shaped_toD db hd
        simpa only [toD] using this
      · rw [any_toDs _ (by omega) ys (by omega)]
        exact q
    · cases hb
  · split at hb
    · rename_i hk
      cases hb
      obtain ⟨a, us, rfl, d1, r1⟩ := rb.dic sub
      obtain rfl : u = Value.ref a := ry
      obtain ⟨o, g, rel⟩ := dget_ok sub d1 r1 (ra.flat (isKeyB_L hk)) hk
      exact L2.d_in (by omega) I g rx fun s' I' => ⟨.bl _, H, I', rfl, by rw [rel.isSome]; exact q⟩
    · cases hb
  · split at hb
    · rename_i hk
      cases hb
      obtain ⟨a, us, rfl, d1, r1⟩ := rb.dic sub
      obtain rfl : u = Value.ref a := ry
      obtain ⟨o, g, rel⟩ := dget_ok sub d1 r1 (ra.flat (isKeyB_L hk)) hk
      exact L2.d_notIn (by omega) I g rx fun s' I' => ⟨.bl _, H, I', rfl, by rw [rel.isSome]; exact q⟩
    · cases hb
  · cases hb
/-! ### a place -/
theorem pix_atI {α : Type} (xs : List α) (i : Int) : pix xs i = atI xs i := by
  unfold pix atI ixN
  by_cases h0 : 0 ≤ i
  · rw [if_pos h0, if_pos h0]
    by_cases h1 : i < xs.length
    · rw [if_pos h1]; rfl
    · rw [if_neg h1]
      exact List.getElem?_eq_none (by omega)
  · rw [if_neg h0, if_neg h0]
    by_cases h1 : -(xs.length : Int) ≤ i
    · rw [if_pos h1, if_pos h1]; rfl
    · rw [if_neg h1, if_neg h1]; rfl
theorem RepVs.pix {xs : List PV} {vs : List V} (h : RepVs D G xs vs) {i : Int} {x : PV} (e : Ev.pix xs i = some x) : ∃ v, atI vs i = some v ∧ RepV D G x v := by
  rw [← pix_atI]
  unfold Ev.pix at e ⊢
  rw [← h.length]
  split at e
  · rename_i h0
    obtain ⟨v, a, b⟩ := h.get e
    exact ⟨v, by rw [if_pos h0]; exact a, b⟩
  · rename_i h0
    split at e
    · rename_i h1
      obtain ⟨v, a, b⟩ := h.get e
      exact ⟨v, by rw [if_neg h0, if_pos h1]; exact a, b⟩
    · cases e
theorem ix_dict (hu : X.A.units + 1 < cLine) : IxR X (fun x y H Q => ∃ a w, x = .ref a ∧ L2.DGet H a y (some w) ∧ Q w H) := by
  intro value slice pins s σ H x y v u Q I rx ry h hs
  obtain ⟨a, w, rfl, g, q⟩ := h
  obtain rfl : v = Value.ref a := rx
  have hT := L2.dict_typeIs I g
  unfold subscriptTail
  refine wpAny_bind ?_
  rw [getitemInPython_of_ne hT.not_modules]
  refine wpAny_bind (wpAny_specialOf hT PySem.F.slot_dict_getitem.lookup ?_)
  have fin : wpAny (model X.prog X.w) X.A (subscripted slice false (.ref a) u) (fun r s₃ => wpAny (model X.prog X.w) X.A (letTemporaryGo value (.ref a) r >>= fun _ => pure r) (EP X pins σ Q) X.xe s₃) X.xe s := by
    rw [hs]
    exact wpAny_operating (wpAny_mono (L2.d_getItem (Q := EP X pins σ Q) hu I g ry fun w' s3 I3 rw' => ⟨w, H, I3, rw', q⟩) (fun r s₃ h₃ => wpAny_bind (wpAny_letTemporaryGo (wpAny_pure h₃))) fun _ _ x => x)
  first
    | exact wpAny_pure (wpAny_bind fin)
    | exact wpAny_bind (wpAny_pure (wpAny_bind fin))
    | exact wpAny_bind fin
theorem ix_idx (e : D.K = X.K) (hu : X.A.units + 65 < cLine) : IxR X (fun x y H Q => ∃ G pa pb r, (∀ b o, G b = some o → H b = some o) ∧ RdE D G H pa x ∧ RdE D G H pb y ∧ idx pa pb = some r ∧ ∀ v, RepV D G r v → Q v H) := by
  intro value slice pins s σ H x y v u Q I rx ry h hp
  obtain ⟨G, pa, pb, r, sub, ra, rb, hb, q⟩ := h
  unfold idx at hb
  split at hb
  · cases rb.int
    obtain ⟨a, vs, rfl, ha, r1⟩ := ra.lst sub
    obtain ⟨w, e1, r2⟩ := r1.pix hb
    exact ix_list value slice pins s σ H _ _ v u Q I rx ry ⟨a, vs, _, w, rfl, rfl, e ▸ ha.sq, e1, q _ r2⟩ hp
  · cases rb.int
    obtain ⟨a, vs, rfl, ha, r1⟩ := ra.tup
    obtain ⟨w, e1, r2⟩ := r1.pix hb
    exact ix_tup value slice pins s σ H _ _ v u Q I rx ry ⟨a, vs, _, w, rfl, rfl, sqT_mono sub (e ▸ ha.sq), e1, q _ r2⟩ hp
  · cases rb.int
    obtain ⟨o1, rfl⟩ := ra.str
    obtain ⟨c, hc, rfl⟩ := Option.map_eq_some_iff.mp hb
    rw [pix_atI] at hc
    refine ix_str value slice pins s σ H _ _ v u Q I rx ry ⟨_, _, c, rfl, rfl, by rw [len_S, sizeLine_eq]; exact o1.1, by simpa using hc, ?_⟩ hp
    refine q (.str ⟨#[c]⟩) ⟨⟨by simp, fun d hd => ?_⟩, rfl⟩
    have ed : d = c := by simpa using hd
    subst ed
    refine o1.2 d ?_
    unfold atI at hc
    obtain ⟨j, hj, hcc⟩ := Option.bind_eq_some_iff.mp hc
    exact List.mem_of_getElem? hcc
  · split at hb
    · rename_i hk
      obtain ⟨a, us, rfl, d1, r1⟩ := ra.dic sub
      obtain ⟨o, g, rel⟩ := dget_ok sub d1 r1 (rb.flat (isKeyB_L hk)) hk
      rw [hb] at rel
      cases o with
      | none => exact rel.elim
      | some w => exact ix_dict (by omega) value slice pins s σ H _ _ v u Q I rx ry ⟨a, w, rfl, g, q w rel⟩ hp
    · cases hb
  · cases hb
/-! ### slices -/
theorem clip_sIx : ∀ (n d : Nat) (o : Option Int), clip n d o = HT.sIx n d o
  | _, _, none => rfl
  | _, _, some _ => rfl
theorem RepVs.cut {xs : List PV} {vs : List V} (h : RepVs D G xs vs) (lo hi : Option Int) : RepVs D G (Ev.cut xs lo hi) (cutV vs lo hi) := by
  unfold Ev.cut cutV
  rw [clip_sIx, clip_sIx, h.length]
  exact (h.drop _).take _
theorem whole {xs : List PV} {vs : List V} (h : RepVs D G xs vs) {lo hi : Option Int} (hw : HT.sIx vs.length 0 lo = 0 ∧ HT.sIx vs.length vs.length hi = vs.length) : Ev.cut xs lo hi = xs := by
  unfold Ev.cut
  rw [clip_sIx, clip_sIx, h.length, hw.1, hw.2, ← h.length]
  simp
theorem sl_slc (e : D.K = X.K) : SlR X (fun x lo hi H Q => ∃ G pa r, (∀ b o, G b = some o → H b = some o) ∧ RdE D G H pa x ∧ slc pa lo hi = some r ∧ ∀ v H' G', Made D G H true r v H' G' → Q v H') := by
  intro pins s σ H x v vl vu lo hi sl Q I rx hs pl pu h
  obtain ⟨G, pa, r, sub, ra, hb, q⟩ := h
  unfold slc at hb
  split at hb
  · cases hb
    obtain ⟨a, vs, rfl, ha, r1⟩ := ra.lst sub
    exact sl_list pins s σ H _ v vl vu _ _ sl Q I rx hs pl pu ⟨a, vs, rfl, e ▸ ha.sq, fun p hp => q _ _ _ (.lst hp (r1.cut _ _))⟩
  · cases hb
    obtain ⟨a, vs, rfl, ha, r1⟩ := ra.tup
    refine sl_tupA pins s σ H _ v vl vu _ _ sl Q I rx hs pl pu ⟨a, vs, rfl, sqT_mono sub (e ▸ ha.sq), fun hw => ?_, fun hw p hp => q _ _ _ (.tup hp (r1.cut _ _))⟩
    have ew : Ev.cut _ _ _ = _ := whole r1 hw
    rw [ew] at q
    exact q _ _ _ (.old ⟨a, vs, rfl, ha, r1⟩ fun _ => rfl)
  · cases hb
    obtain ⟨o1, rfl⟩ := ra.str
    refine sl_str pins s σ H _ v vl vu _ _ sl Q I rx hs pl pu ⟨_, rfl, by rw [len_S, sizeLine_eq]; exact o1.1, ?_⟩
    have := q (.str (cutS (S _) _ _)) H G (.old ⟨okS_sub o1 ?_, rfl⟩ fun _ => rfl)
    · exact this
    · exact (List.take_sublist _ _).trans (List.drop_sublist _ _)
  · cases hb
end
end Ev

/-! Ev5: built-in calls and methods by values. -/
namespace Ev
open PySem PySem.Spec PyProof.Rows L2
theorem mem_maxI : ∀ (r : List Int) (x : Int), maxI r x ∈ x :: r ∧ ∀ y ∈ x :: r, y ≤ maxI r x
  | [], x => ⟨by simp [maxI], fun y h => by simp at h; simp [maxI, h]⟩
  | a :: r, x => by
    obtain ⟨h1, h2⟩ := mem_maxI r (if a > x then a else x)
    simp only [maxI]
    refine ⟨?_, fun y hy => ?_⟩
    · rcases List.mem_cons.mp h1 with h | h
      · rw [h]
        by_cases c : a > x
        · rw [if_pos c]; simp
        · rw [if_neg c]; simp
      · simp [h]
    · have h3 := h2 (if a > x then a else x) (by simp)
      rcases List.mem_cons.mp hy with rfl | hy
      · refine Int.le_trans ?_ h3
        split <;> omega
      · rcases List.mem_cons.mp hy with rfl | hy
        · refine Int.le_trans ?_ h3
          split <;> omega
        · exact h2 y (by simp [hy])
theorem mem_minI : ∀ (r : List Int) (x : Int), minI r x ∈ x :: r ∧ ∀ y ∈ x :: r, minI r x ≤ y
  | [], x => ⟨by simp [minI], fun y h => by simp at h; simp [minI, h]⟩
  | a :: r, x => by
    obtain ⟨h1, h2⟩ := mem_minI r (if a < x then a else x)
    simp only [minI]
    refine ⟨?_, fun y hy => ?_⟩
    · rcases List.mem_cons.mp h1 with h | h
      · rw [h]
        by_cases c : a < x
        · rw [if_pos c]; simp
        · rw [if_neg c]; simp
      · simp [h]
    · have h3 := h2 (if a < x then a else x) (by simp)
      rcases List.mem_cons.mp hy with rfl | hy
      · refine Int.le_trans h3 ?_
        split <;> omega
      · rcases List.mem_cons.mp hy with rfl | hy
        · refine Int.le_trans h3 ?_
          split <;> omega
        · exact h2 y (by simp [hy])
theorem insI_perm (x : Int) : ∀ l : List Int, (insI x l).Perm (x :: l)
  | [] => .refl _
  | y :: r => by
    simp only [insI]
    split
    · exact .refl _
    · exact ((insI_perm x r).cons y).trans (.swap x y r)
theorem sortI_perm : ∀ l : List Int, (sortI l).Perm l
  | [] => .refl _
  | x :: r => (insI_perm x (sortI r)).trans ((sortI_perm r).cons x)
theorem insI_sorted (x : Int) : ∀ l : List Int, l.Pairwise (· ≤ ·) → (insI x l).Pairwise (· ≤ ·)
  | [], _ => by simp [insI]
  | y :: r, h => by
    obtain ⟨h1, h2⟩ := List.pairwise_cons.mp h
    simp only [insI]
    split
    · rename_i c
      refine List.pairwise_cons.mpr ⟨fun z hz => ?_, h⟩
      rcases List.mem_cons.mp hz with rfl | hz
      · exact c
      · exact Int.le_trans c (h1 z hz)
    · rename_i c
      refine List.pairwise_cons.mpr ⟨fun z hz => ?_, insI_sorted x r h2⟩
      rcases List.mem_cons.mp ((insI_perm x r).mem_iff.mp hz) with rfl | hz
      · omega
      · exact h1 z hz
theorem sortI_sorted : ∀ l : List Int, (sortI l).Pairwise (· ≤ ·)
  | [] => .nil
  | x :: r => insI_sorted x _ (sortI_sorted r)
theorem sortI_eq {a l : List Int} (hp : a.Perm l) (hs : a.Pairwise (· ≤ ·)) : a = sortI l := PySem.W.ksm_same (hp.trans (sortI_perm l).symm) hs (sortI_sorted l)

theorem digV_val (s : List Nat) : digV s = NumText.digitsVal s := rfl
section
variable {X : Cx} {D : Dm} {G H : Hp}
def b1V : B1 → Value
  | .len => .builtin "len" | .sum => .builtin "sum" | .min => .builtin "min" | .max => .builtin "max" | .abs => .builtin "abs" | .sorted => .builtin "sorted"
  | .list => .type "list" | .tuple => .type "tuple" | .str => .type "str" | .int => .type "int" | .ord => .builtin "ord"
def b1N : B1 → Str
  | .len => "len" | .sum => "sum" | .min => "min" | .max => "max" | .abs => "abs" | .sorted => "sorted" | .list => "list" | .tuple => "tuple" | .str => "str" | .int => "int" | .ord => "ord"
theorem b1_boot : ∀ b : B1, bootBuiltins (b1N b) = some (b1V b) := by
  intro b; cases b <;> decide +kernel
theorem showN_num (n : Nat) : (toString ((n : Nat) : Int) : Str) = S (showN n) := SX.num_S n
theorem showN_ok (n : Nat) (h : n < 10 ^ 60) : okS (showN n) :=
  ⟨Nat.le_trans (TL.numL_len (k := 60) (by decide) h) (by decide), fun c hc => by
    have := TL.numL_digits n c hc
    omega⟩
theorem call_list_text {X : Cx} (hc : X.calm = true) : CallR X (.type "list") (fun vs H Q => ∃ s, okS s ∧ vs = [.str (S s)] ∧ ∀ l, H l = none → Q (.ref l) (upd H l (.lst (s.map fun c => V.str (S [c]))))) := by
  intro pins s σ H vs us Q I rv h
  obtain ⟨x, ok, rfl, q⟩ := h
  obtain ⟨u, rfl, ru⟩ := vals1 rv
  obtain ⟨t, rfl⟩ := ru
  have hz : (S x).cps.size ≤ sizeLine := by show x.toArray.size ≤ sizeLine; rw [List.size_toArray, sizeLine_eq]; exact ok.1
  refine call_list_str (hn := hz) (I.ok.hd hc) (S x) t fun h' tk acc' c' hk e' hi => ?_
  refine ⟨.ref s.heap.objs.size, upd H s.heap.objs.size (.lst (x.map fun c => V.str (S [c]))), I.laid hk (Nat.le_refl _) (show ObjOk X.prog X.w _ _ _ (.lst (x.map fun c => V.str (S [c]))) from ⟨?_, acc'.toList, c', ?_, ?_⟩), rfl, q _ (I.hok.fresh (Nat.le_refl _))⟩
  · rw [List.length_map, sizeLine_eq]; exact ok.1
  · have el : acc'.toList.length = acc'.size := by simp
    refine L2.vals_of_at (by rw [List.length_map, el, hi.1]; show x.length = x.toArray.size; rw [List.size_toArray]) fun j y w h1 h2 => ?_
    obtain ⟨c, u, hc, rfl⟩ := hi.2 j w (by rw [← Array.getElem?_toList]; exact h2)
    have hc' : x[j]? = some c := by have : x.toArray[j]? = some c := hc; simpa using this
    rw [List.getElem?_map, hc'] at h1
    cases h1
    exact ⟨u, rfl⟩
  · rw [Array.toArray_toList]; exact e'
theorem keysR_len : ∀ {xs : List PV} {k : List L2.Key}, keysR xs k → xs.length = k.length
  | [], k, h => by
    have e : k = [] := h
    subst e
    rfl
  | x :: xs, k, h => by
    obtain ⟨a, r, rfl, h1, h2⟩ := h
    rw [List.length_cons, List.length_cons, keysR_len h2]
theorem cr_b1 (e : D.K = X.K) (hc : X.calm = true) (b : B1) : CallR X (b1V b) (fun vs H Q => ∃ G x pa r, vs = [x] ∧ (∀ b o, G b = some o → H b = some o) ∧ RdE D G H pa x ∧ b1 b pa = some r ∧ ∀ v H' G', Made D G H true r v H' G' → Q v H') := by
  intro pins s σ H vs us Q I rv h
  obtain ⟨G, x, pa, r, rfl, sub, ra, hb, q⟩ := h
  unfold b1 at hb
  split at hb
  · cases hb
    obtain ⟨a, vs, rfl, ha, r1⟩ := ra.lst sub
    refine call_len_seq pins s σ H _ us Q I rv ⟨a, vs, rfl, .inl (e ▸ ha.sq), ?_⟩
    rw [← r1.length]
    exact q _ _ _ (.old rfl fun _ => rfl)
  · cases hb
    obtain ⟨a, vs, rfl, ha, r1⟩ := ra.tup
    refine call_len_seq pins s σ H _ us Q I rv ⟨a, vs, rfl, .inr (sqT_mono sub (e ▸ ha.sq)), ?_⟩
    rw [← r1.length]
    exact q _ _ _ (.old rfl fun _ => rfl)
  · cases hb
    obtain ⟨o1, rfl⟩ := ra.str
    refine call_len_str pins s σ H _ us Q I rv ⟨_, rfl, by rw [len_S, sizeLine_eq]; exact o1.1, ?_⟩
    rw [len_S]
    exact q _ _ _ (.old rfl fun _ => rfl)
  · cases hb
    obtain ⟨a, us', rfl, d1, r1⟩ := ra.dic sub
    obtain ⟨kk, h1, h2, rfl⟩ := d1
    cases rv with
    | cons hu t =>
      cases t
      obtain rfl : _ = Value.ref a := hu
      refine L2.d_len I (.inl h1) fun t s' I' => ⟨.int kk.length, H, I', ⟨t, rfl⟩, ?_⟩
      rw [show kk.length = (kk.map (·.1)).length by rw [List.length_map], ← keysR_len h2]
      exact q _ _ _ (.old rfl fun _ => rfl)
  · obtain ⟨l, hl, rfl⟩ := Option.map_eq_some_iff.mp hb
    obtain ⟨a, vs, rfl, ha, r1⟩ := ra.lst sub
    have e1 := r1.asIs hl
    subst e1
    exact cr_sum hc pins s σ H _ us Q I rv ⟨a, l, rfl, e ▸ ha.sq, q _ _ _ (.old rfl fun _ => rfl)⟩
  · split at hb
    · rename_i y l hl
      cases hb
      obtain ⟨a, vs, rfl, ha, r1⟩ := ra.lst sub
      have e1 := r1.asIs hl
      subst e1
      refine cr_min hc pins s σ H _ us Q I rv ⟨a, _, rfl, e ▸ ha.sq, by simp, fun m hm hle => ?_⟩
      obtain ⟨k1, k2⟩ := mem_minI l y
      have : m = minI l y := Int.le_antisymm (hle _ k1) (k2 _ hm)
      subst this
      exact q _ _ _ (.old rfl fun _ => rfl)
    · cases hb
  · split at hb
    · rename_i y l hl
      cases hb
      obtain ⟨a, vs, rfl, ha, r1⟩ := ra.lst sub
      have e1 := r1.asIs hl
      subst e1
      refine cr_max hc pins s σ H _ us Q I rv ⟨a, _, rfl, e ▸ ha.sq, by simp, fun m hm hle => ?_⟩
      obtain ⟨k1, k2⟩ := mem_maxI l y
      have : m = maxI l y := Int.le_antisymm (k2 _ hm) (hle _ k1)
      subst this
      exact q _ _ _ (.old rfl fun _ => rfl)
    · cases hb
  · cases hb
    cases ra.int
    exact call_abs pins s σ H _ us Q I rv ⟨_, rfl, q _ _ _ (.old rfl fun _ => rfl)⟩
  · split at hb
    · rename_i l hl
      cases hb
      obtain ⟨a, vs, rfl, ha, r1⟩ := ra.lst sub
      have e1 := r1.asIs hl
      subst e1
      refine cr_sortedI pins s σ H _ us Q I rv ⟨a, _, rfl, e ▸ ha.sq, fun ns' p hp hs hn => ?_⟩
      rw [sortI_eq hp hs]
      exact q _ _ _ (.lst hn (RepVs.ofInts _))
    · cases hb
  · cases hb
    obtain ⟨a, vs, rfl, ha, r1⟩ := ra.lst sub
    exact call_list_of pins s σ H _ us Q I rv ⟨a, vs, rfl, .inl (e ▸ ha.sq), fun l hl => q _ _ _ (.lst hl r1)⟩
  · cases hb
    obtain ⟨a, vs, rfl, ha, r1⟩ := ra.tup
    exact call_list_of pins s σ H _ us Q I rv ⟨a, vs, rfl, .inr (sqT_mono sub (e ▸ ha.sq)), fun l hl => q _ _ _ (.lst hl r1)⟩
  · cases hb
    obtain ⟨o1, rfl⟩ := ra.str
    refine call_list_text hc pins s σ H _ us Q I rv ⟨_, o1, rfl, fun l hl => ?_⟩
    have := RepVs.ofStrs (D := D) (G := G) (List.map (fun c => [c]) _) (fun t ht => by
      obtain ⟨c, hc, rfl⟩ := List.mem_map.mp ht
      exact ⟨by show 1 ≤ 16777216; omega, fun d hd => by rw [List.mem_singleton.mp hd]; exact o1.2 c hc⟩)
    rw [List.map_map, List.map_map] at this
    exact q _ _ _ (.lst hl this)
  · cases hb
    obtain ⟨a, vs, rfl, ha, r1⟩ := ra.lst sub
    exact call_tuple_of pins s σ H _ us Q I rv ⟨a, vs, rfl, .inl ⟨e ▸ ha.sq, fun l hl => q _ _ _ (.tup hl r1)⟩⟩
  · cases hb
    obtain ⟨a, vs, rfl, ha, r1⟩ := ra.tup
    exact call_tuple_of pins s σ H _ us Q I rv ⟨a, vs, rfl, .inr ⟨sqT_mono sub (e ▸ ha.sq), q _ _ _ (.old ⟨a, vs, rfl, ha, r1⟩ fun _ => rfl)⟩⟩
  · obtain ⟨⟨h0, h1⟩, rfl⟩ := grd_some hb
    cases ra.int
    rename_i i
    obtain ⟨n, rfl⟩ : ∃ n : Nat, i = (n : Int) := ⟨i.toNat, by omega⟩
    refine call_str_int pins s σ H _ us Q I rv ⟨_, rfl, ?_, ?_⟩
    · exact Nat.lt_of_lt_of_le (PySem.Flt.log2_lt_of (k := 200) (by decide) (Nat.lt_of_lt_of_le (m := 10 ^ 60) (by omega) (by decide))) (by decide)
    · rw [showN_num]
      have := q (.str (S (showN n))) H G (.old ⟨showN_ok n (by omega), rfl⟩ fun _ => rfl)
      exact this
  · cases hb
    obtain ⟨o1, rfl⟩ := ra.str
    exact SkE.call_str_str pins s σ H _ us Q I rv ⟨_, rfl, q _ _ _ (.old ⟨o1, rfl⟩ fun _ => rfl)⟩
  · cases hb
    cases ra.int
    exact call_int1 pins s σ H _ us Q I rv (.inl ⟨_, rfl, q _ _ _ (.old rfl fun _ => rfl)⟩)
  · obtain ⟨⟨h0, h1, h2⟩, rfl⟩ := grd_some hb
    obtain ⟨o1, rfl⟩ := ra.str
    exact call_int_str pins s σ H _ us Q I rv ⟨_, _, rfl, SX.int_S h2 h0 (by omega), by rw [len_S]; omega, q _ _ _ (.old (by rw [digV_val]; rfl) fun _ => rfl)⟩
  · cases hb
    obtain ⟨o1, rfl⟩ := ra.str
    exact call_ord pins s σ H _ us Q I rv ⟨_, rfl, rfl, q _ _ _ (.old rfl fun _ => rfl)⟩
  · cases hb

theorem strsV : ∀ l : List (List Nat), l.map (fun s => V.str (S s)) = (l.map S).map V.str
  | [] => rfl
  | x :: l => by simp [strsV l]
theorem joinS_L (a : List Nat) : ∀ ys : List (List Nat), joinS a ys = TL.joinL a ys
  | [] => rfl
  | [_] => rfl
  | x :: y :: r => by
    simp only [joinS, TL.joinL, joinS_L a (y :: r), List.append_assoc]
theorem joinS_ok {a : List Nat} (ha : okS a) : ∀ {ys : List (List Nat)}, (∀ s ∈ ys, okS s) → (∀ c ∈ joinS a ys, c < 1114112) ∧ (joinS a ys).length ≤ (ys.map (·.length)).sum + ys.length * a.length
  | [], _ => ⟨by simp [joinS], by simp [joinS]⟩
  | [x], h => ⟨by simpa [joinS] using (h x (by simp)).2, by simp [joinS]⟩
  | x :: y :: r, h => by
    obtain ⟨h1, h2⟩ := joinS_ok ha (ys := y :: r) fun s hs => h s (by simp [hs])
    simp only [joinS]
    refine ⟨fun c hc => ?_, ?_⟩
    · rcases List.mem_append.mp hc with hc | hc
      · rcases List.mem_append.mp hc with hc | hc
        · exact (h x (by simp)).2 c hc
        · exact ha.2 c hc
      · exact h1 c hc
    · rw [List.length_append, List.length_append]
      simp only [List.map_cons, List.sum_cons, List.length_cons] at h2 ⊢
      have : (r.length + 1 + 1) * a.length = (r.length + 1) * a.length + a.length := by rw [Nat.add_mul (r.length + 1) 1 a.length, Nat.one_mul]
      omega
theorem findIx_spec (a : PV) : ∀ (ys : List PV) (k j : Nat), findIx a ys k = some j → ∃ m, j = k + m ∧ (∃ y, ys[m]? = some y ∧ PV.eqv y a = true) ∧ ∀ i y, i < m → ys[i]? = some y → PV.eqv y a = false
  | [], _, _, h => by simp [findIx] at h
  | y :: r, k, j, h => by
    simp only [findIx] at h
    split at h
    · rename_i c
      exact ⟨0, by simpa using h.symm, ⟨y, rfl, c⟩, fun i _ hi => by omega⟩
    · rename_i c
      obtain ⟨m, e, ⟨z, h1, h2⟩, h3⟩ := findIx_spec a r (k + 1) j h
      refine ⟨m + 1, by omega, ⟨z, by simpa using h1, h2⟩, fun i w hi hw => ?_⟩
      cases i with
      | zero =>
        have : y = w := by simpa using hw
        subst this
        simpa using c
      | succ i => exact h3 i w (by omega) (by simpa using hw)
theorem findC_spec (c : Nat) : ∀ (ys : List Nat) (k j : Nat), findC c ys k = some j → ∃ m, j = k + m ∧ ys[m]? = some c ∧ ∀ i, i < m → ys[i]? ≠ some c
  | [], _, _, h => by simp [findC] at h
  | y :: r, k, j, h => by
    simp only [findC] at h
    split at h
    · rename_i e
      exact ⟨0, by simpa using h.symm, by simp [e], fun i hi => by omega⟩
    · rename_i e
      obtain ⟨m, e1, h1, h3⟩ := findC_spec c r (k + 1) j h
      refine ⟨m + 1, by omega, by simpa using h1, fun i hi hw => ?_⟩
      cases i with
      | zero =>
        have : y = c := by simpa using hw
        exact e this
      | succ i => exact h3 i (by omega) (by simpa using hw)
theorem splitC_spl (c : Nat) : ∀ (a acc : List Nat), splitC c a acc = TL.spl [c] 0 acc a
  | [], acc => by simp [splitC, TL.spl]
  | y :: r, acc => by
    simp only [splitC, TL.spl]
    by_cases h : y = c
    · subst h
      rw [if_pos rfl, if_pos (by simp [TL.pre]), splitC_spl y r []]
      rfl
    · rw [if_neg h, if_neg (by simp [TL.pre]; exact fun e => h e), splitC_spl c r]
theorem splitC_ok (c : Nat) : ∀ (a acc : List Nat), okS (acc ++ a) → ∀ s ∈ splitC c a acc, okS s
  | [], acc, h, s, hs => by
    have : s = acc := by simpa [splitC] using hs
    rw [this]
    simpa using h
  | y :: r, acc, h, s, hs => by
    simp only [splitC] at hs
    split at hs
    · rcases List.mem_cons.mp hs with rfl | hs
      · exact okS_sub h (List.sublist_append_left _ _)
      · exact splitC_ok c r [] (okS_sub h (by simpa using ((List.sublist_cons_self y r).trans (List.sublist_append_right acc (y :: r))))) s hs
    · exact splitC_ok c r (acc ++ [y]) (by simpa using h) s hs
theorem splitC_len (c : Nat) : ∀ (a acc : List Nat), (splitC c a acc).length = a.count c + 1
  | [], acc => by simp [splitC]
  | y :: r, acc => by
    simp only [splitC, List.count_cons, beq_iff_eq]
    split
    · rw [List.length_cons, splitC_len c r []]
    · rw [splitC_len c r _]
theorem count_aux {x y : Str} (hy : (y.length == 0) = false) : (Txt.split x y).length = (Builtin.Str.occurrences x y 0 x.length (x.length + 1)).length + 1 := by
  have h : (if (y.length == 0) = true then Option.none else some (PySem.W.WData.list ((Builtin.Str.partsBetween x (Builtin.Str.occurrences x y 0 x.length (x.length + 1)) y.length).map PySem.W.WData.str))) = some (PySem.W.WData.list ((Txt.split x y).map .str)) := PySem.W.m_split x y hy
  rw [if_neg (by rw [hy]; nofun)] at h
  injection h with h
  injection h with h
  have e6 := congrArg List.length h
  simp only [Builtin.Str.partsBetween, List.length_map, List.length_zip, List.length_cons, List.length_append, List.length_nil] at e6
  omega
theorem count_S {sx : List Nat} {c : Nat} (hc : c < 256) : Txt.count (S sx) (S [c]) = ((sx.count c : Nat) : Int) := by
  have e4 : Txt.split (S sx) (S [c]) = (splitC c sx []).map S := by
    rw [splitC_spl]
    exact SX.split_S (by simp) (by simp [hc])
  have e6 := count_aux (x := S sx) (y := S [c]) rfl
  rw [e4, List.length_map, splitC_len] at e6
  show (((Builtin.Str.occurrences (S sx) (S [c]) 0 (S sx).length ((S sx).length + 1)).length : Nat) : Int) = _
  omega
def m1T : M1 → String
  | .join => "str" | .lindex => "list" | .tindex => "tuple" | .sindex => "str" | .split => "str" | .scount => "str"
def m1I : M1 → String
  | .join => "str.join" | .lindex => "list.index" | .tindex => "tuple.index" | .sindex => "str.index" | .split => "str.split" | .scount => "str.count"
def m1N : M1 → Str
  | .join => "join" | .lindex => "index" | .tindex => "index" | .sindex => "index" | .split => "split" | .scount => "count"
/-- t.index(x) of a tuple: the first place of an equal one -/
theorem mt_tindexD {X : Cx} (hu : X.A.units + 65 < cLine) : MtR X "tuple.index" (fun x xs H Q => ∃ (a : Addr) (y : V) (d : PyData) (ds : List PyData) (j : Nat) (z : PyData), x = V.ref a ∧ xs = [y] ∧ Dp X.K H (V.ref a) (.tuple ds) ∧ Dp X.K H y d ∧
  SeqAt.shaped (.tuple ds) = true ∧ SeqAt.shaped d = true ∧ ds[j]? = some z ∧ PyData.eqv z d = true ∧ (∀ (m : Nat) (z' : PyData), m < j → ds[m]? = some z' → PyData.eqv z' d = false) ∧ Q (.int (j : Nat)) H) := by
  intro pins s σ H x xs v us Q I rx rxs h
  obtain ⟨a, y, d, ds, j, z, rfl, rfl, hl, hy, sl, sd, hz, hzj, hno, q⟩ := h
  cases rx
  obtain ⟨uy, rfl, ry⟩ := vals1 rxs
  obtain ⟨bs, r1⟩ := Dp.reads I d y uy hy ry
  have hxs : PyData.canLayAll0 ds = true := SeqAt.canLay_of_shaped sl
  have hroom : X.A.units + 1 + min (PyData.depthAll ds) d.depth < cLine := room_in_shaped sd hu
  cases hl with
  | tup hs ha =>
    obtain ⟨its, rv, pl, hlen⟩ := I.tuple hs
    obtain ⟨⟨cls, dd, dt, sls⟩, ho, hc, n, hdt⟩ := pl
    simp only at hc hdt
    subst hc hdt
    obtain ⟨as, h4⟩ := Dp.readsAll I ds _ its ha rv
    have hn : its.length = ds.length := SeqAt.ReadsAll.length ds its as h4
    have hmap : its.map (SeqAt.readOf s.heap) = ds := SeqAt.readsAll_map ds its as hxs h4
    obtain ⟨hjd, _⟩ := List.getElem?_eq_some_iff.mp hz
    have hjl : j < its.length := by omega
    have hj : j < its.toArray.size := by simpa using hjl
    have at_ : ∀ (m : Nat) (hm : m < its.toArray.size) (z' : PyData), ds[m]? = some z' → SeqAt.readOf s.heap its.toArray[m] = z' := by
      intro m hm z' hz'
      have hml : m < its.length := by simpa using hm
      rw [← hmap, List.getElem?_map, List.getElem?_eq_getElem hml] at hz'
      have e1 : SeqAt.readOf s.heap its[m] = z' := Option.some.inj (show some (SeqAt.readOf s.heap its[m]) = some z' from hz')
      simpa using e1
    refine call_meets PySem.F.slot_tuple_index ⟨_, ho, rfl⟩ PySem.F.entry_tuple_index (PySem.F.args_tuple_index_2 _ _)
      (TI.tuple_indexAt a its.toArray n dd sls uy (fun u => PyData.eqv (SeqAt.readOf s.heap u) d) j hj ?_ ?_) ⟨ho, SeqAt.items_eqAt (vs := its.toArray) (show ReadsAll s.heap its.toArray.toList ds as from h4) r1 hxs (SeqAt.canLay_of_shaped sd) hroom, ?_⟩
    · show PyData.eqv (SeqAt.readOf s.heap its.toArray[j]) d = true
      rw [at_ j hj z hz]
      exact hzj
    · intro m hm hmj
      have hmd : m < ds.length := by have : m < its.length := (by simpa using hm); omega
      have hz' : ds[m]? = some ds[m] := List.getElem?_eq_getElem hmd
      show PyData.eqv (SeqAt.readOf s.heap its.toArray[m]) d = false
      rw [at_ m hm _ hz']
      exact hno m _ hmj hz'
    · exact ⟨.int (j : Nat), H, I.tok _, ⟨_, rfl⟩, q⟩
theorem mt_m1 (e : D.K = X.K) (hu : X.A.units + 65 < cLine) (m : M1) : MtR X (m1I m) (fun x vs H Q => ∃ G y pa pb r, vs = [y] ∧ (∀ b o, G b = some o → H b = some o) ∧ RdE D G H pa x ∧ RdE D G H pb y ∧ m1 m pa pb = some r ∧ ∀ v H' G', Made D G H true r v H' G' → Q v H') := by
  intro pins s σ H x xs v us Q I rx rxs h
  obtain ⟨G, y, pa, pb, r, rfl, sub, ra, rb, hb, q⟩ := h
  have db := rb.rep sub
  unfold m1 at hb
  split at hb
  · rename_i sp xsp
    split at hb
    · rename_i l hl
      obtain ⟨hz, rfl⟩ := grd_some hb
      obtain ⟨o1, rfl⟩ := ra.str
      obtain ⟨a, vs, rfl, ha, r1⟩ := rb.lst sub
      obtain ⟨e1, o2⟩ := r1.asSs hl
      subst e1
      rw [strsV] at ha
      refine mt_join pins s σ H _ _ v us Q I rx rxs ⟨_, a, l.map S, rfl, rfl, .inl (e ▸ ha.sq), ?_, ?_⟩
      · have e3 : (l.map S).map (·.length) = l.map (·.length) := SX.lens l
        rw [e3, List.length_map, len_S]
        exact hz
      · have e4 : Txt.join (S sp) (l.map S) = S (joinS sp l) := by rw [joinS_L]; exact SX.join_S sp l
        rw [e4]
        obtain ⟨k1, k2⟩ := joinS_ok o1 o2
        exact q (.str (S (joinS sp l))) H G (.old ⟨⟨Nat.le_trans k2 hz, k1⟩, rfl⟩ fun _ => rfl)
    · cases hb
  · split at hb
    · rename_i a ys hh
      obtain ⟨j, hj, rfl⟩ := Option.map_eq_some_iff.mp hb
      obtain ⟨m, rfl, ⟨z, h1, h2⟩, h3⟩ := findIx_spec _ _ _ _ hj
      rw [Nat.zero_add] at q
      have da := ra.rep sub
      have hd : (PV.lst ys).dep ≤ 60 := by simp only [PV.dep]; omega
      obtain ⟨l, vs, rfl, ha, r1⟩ := ra.lst sub
      have dys : ∀ {i : Nat} {w : PV}, ys[i]? = some w → w.dep ≤ 59 := fun {i w} hw => by
        have : ∀ (l : List PV) (i : Nat), l[i]? = some w → w.dep ≤ PV.deps l := by
          intro l
          induction l with
          | nil => intro i h; simp at h
          | cons a l ih =>
            intro i h
            cases i with
            | zero =>
              have : a = w := by simpa using h
              subst this
              exact Nat.le_max_left _ _
            | succ i => exact Nat.le_trans (ih i (by simpa using h)) (Nat.le_max_right _ _)
        exact Nat.le_trans (this ys i hw) hh.2
      refine mt_indexD hu pins s σ H _ _ v us Q I rx rxs ⟨l, y, toD _, toDs ys, m, toD z, rfl, rfl, ?_, e ▸ dp_toD db (by omega), ?_, shaped_toD db (by omega), ?_, ?_, fun i z' hi hz' => ?_, q _ _ _ (.old rfl fun _ => rfl)⟩
      · have := dp_toD da (by omega)
        simp only [toD] at this
        exact e ▸ this
      · have := shaped_toD da hd
        simpa only [toD] using this
      · rw [toDs_map, List.getElem?_map, h1]; rfl
      · rw [eqv_toD _ _ (by have := dys h1; omega) (by omega)]; exact h2
      · rw [toDs_map, List.getElem?_map] at hz'
        obtain ⟨w, hw, rfl⟩ := Option.map_eq_some_iff.mp hz'
        rw [eqv_toD _ _ (by have := dys hw; omega) (by omega)]
        exact h3 i w hi hw
    · cases hb
  · split at hb
    · rename_i a ys hh
      obtain ⟨j, hj, rfl⟩ := Option.map_eq_some_iff.mp hb
      obtain ⟨m, rfl, ⟨z, h1, h2⟩, h3⟩ := findIx_spec _ _ _ _ hj
      rw [Nat.zero_add] at q
      have da := ra.rep sub
      have hd : (PV.tup ys).dep ≤ 60 := by simp only [PV.dep]; omega
      obtain ⟨l, vs, rfl, ha, r1⟩ := ra.tup
      have dys : ∀ {i : Nat} {w : PV}, ys[i]? = some w → w.dep ≤ 59 := fun {i w} hw => by
        have : ∀ (l : List PV) (i : Nat), l[i]? = some w → w.dep ≤ PV.deps l := by
          intro l
          induction l with
          | nil => intro i h; simp at h
          | cons a l ih =>
            intro i h
            cases i with
            | zero =>
              have : a = w := by simpa using h
              subst this
              exact Nat.le_max_left _ _
            | succ i => exact Nat.le_trans (ih i (by simpa using h)) (Nat.le_max_right _ _)
        exact Nat.le_trans (this ys i hw) hh.2
      refine mt_tindexD hu pins s σ H _ _ v us Q I rx rxs ⟨l, y, toD _, toDs ys, m, toD z, rfl, rfl, ?_, e ▸ dp_toD db (by omega), ?_, shaped_toD db (by omega), ?_, ?_, fun i z' hi hz' => ?_, q _ _ _ (.old rfl fun _ => rfl)⟩
      · have := dp_toD da (by omega)
        simp only [toD] at this
        exact e ▸ this
      · have := shaped_toD da hd
        simpa only [toD] using this
      · rw [toDs_map, List.getElem?_map, h1]; rfl
      · rw [eqv_toD _ _ (by have := dys h1; omega) (by omega)]; exact h2
      · rw [toDs_map, List.getElem?_map] at hz'
        obtain ⟨w, hw, rfl⟩ := Option.map_eq_some_iff.mp hz'
        rw [eqv_toD _ _ (by have := dys hw; omega) (by omega)]
        exact h3 i w hi hw
    · cases hb
  · rename_i sx c
    obtain ⟨j, hj, rfl⟩ := Option.map_eq_some_iff.mp hb
    obtain ⟨m, rfl, h1, h3⟩ := findC_spec _ _ _ _ hj
    rw [Nat.zero_add] at q
    obtain ⟨o1, rfl⟩ := ra.str
    obtain ⟨o2, rfl⟩ := rb.str
    have at_ : ∀ i, StrLaws.At (S sx) (S [c]) (S sx).length i ↔ sx[i]? = some c := fun i => by
      have := StrLaws.subAt_one (S sx) c i
      simpa [StrLaws.At] using this
    rcases StrLaws.occ_head (S sx) (S [c]) 1 (Nat.le_refl 1) with ⟨_, hn⟩ | ⟨i, rest, ho, ha, hn⟩
    · exact absurd ((at_ m).mpr h1) (hn m)
    · have em : i = m := by
        rcases Nat.lt_trichotomy i m with h | h | h
        · exact absurd ((at_ i).mp ha) (h3 i h)
        · exact h
        · exact absurd ((at_ m).mpr h1) (hn m h)
      subst em
      exact mt_sindex pins s σ H _ _ v us Q I rx rxs ⟨S sx, S [c], i, rest, rfl, rfl, ho, q _ _ _ (.old rfl fun _ => rfl)⟩
  · obtain ⟨⟨hz, hc⟩, rfl⟩ := grd_some hb
    obtain ⟨o1, rfl⟩ := ra.str
    obtain ⟨o2, rfl⟩ := rb.str
    rename_i sx c
    refine mt_split pins s σ H _ _ v us Q I rx rxs ⟨_, _, rfl, rfl, by simp [S, Str.length], by rw [len_S, sizeLine_eq]; exact hz, fun p hp => ?_⟩
    have e4 : Txt.split (S sx) (S [c]) = (splitC c sx []).map S := by
      rw [splitC_spl]
      exact SX.split_S (by simp) (by simp [hc])
    rw [e4, ← strsV]
    exact q _ _ _ (.lst hp (RepVs.ofStrs _ (splitC_ok c sx [] (by simpa using o1))))
  · obtain ⟨hc, rfl⟩ := grd_some hb
    obtain ⟨o1, rfl⟩ := ra.str
    obtain ⟨o2, rfl⟩ := rb.str
    rename_i sx c
    refine mt_count pins s σ H _ _ v us Q I rx rxs ⟨S sx, S [c], rfl, rfl, ?_⟩
    rw [count_S hc]
    exact q _ _ _ (.old rfl fun _ => rfl)
  · cases hb

def b2V : B2 → Value
  | .min => .builtin "min" | .max => .builtin "max"
def b2N : B2 → Str
  | .min => "min" | .max => "max"
theorem b2_boot : ∀ b : B2, bootBuiltins (b2N b) = some (b2V b) := by
  intro b; cases b <;> decide +kernel
theorem cr_b2 (hc : X.calm = true) (b : B2) : CallR X (b2V b) (fun vs H Q => ∃ G x y pa pb r, vs = [x, y] ∧ RdE D G H pa x ∧ RdE D G H pb y ∧ b2 b pa pb = some r ∧ ∀ v H' G', Made D G H true r v H' G' → Q v H') := by
  intro pins s σ H vs us Q I rv h
  obtain ⟨G, x, y, pa, pb, r, rfl, ra, rb, hb, q⟩ := h
  unfold b2 at hb
  split at hb
  · cases hb
    cases ra.int; cases rb.int
    exact call_min2 hc pins s σ H _ us Q I rv ⟨_, _, rfl, q _ _ _ (.old rfl fun _ => rfl)⟩
  · cases hb
    cases ra.int; cases rb.int
    exact call_max2 hc pins s σ H _ us Q I rv ⟨_, _, rfl, q _ _ _ (.old rfl fun _ => rfl)⟩
  · cases hb
/-! ### kinds -/
def tyN : Ty → Str
  | .int => "int" | .bool => "bool" | .str => "str" | .list => "list" | .tuple => "tuple" | .dict => "dict"
def tyS : Ty → String
  | .int => "int" | .bool => "bool" | .str => "str" | .list => "list" | .tuple => "tuple" | .dict => "dict"
theorem ty_boot : ∀ t : Ty, bootBuiltins (tyN t) = some (.type (tyS t)) := by
  intro b; cases b <;> decide +kernel
def kindS : PV → String
  | .non => "NoneType" | .bl _ => "bool" | .int _ => "int" | .str _ => "str" | .lst _ => "list" | .tup _ => "tuple" | .dic _ _ _ => "dict" | .fn _ => "" | .obj _ _ => ""
theorem lsA_ty {K : PySem.W.Frag} {a : Addr} {vs : List V} (h : LsA K H a vs) : TyX K H (.ref a) (.type "list") := by
  rcases h with h | ⟨its, n, e, _⟩
  · rcases h with h | ⟨o, h⟩
    · exact .base (.lst h)
    · exact .base (.frz h)
  · exact .kList e rfl
theorem sqT_ty {K : PySem.W.Frag} {a : Addr} {vs : List V} (h : SqT K H a vs) : TyX K H (.ref a) (.type "tuple") := by
  rcases h with h | ⟨o, its, n, e, c, _⟩
  · rcases h with h | ⟨o, h⟩
    · exact .base (.tup h)
    · exact .fTuple h
  · exact .kTuple e c
theorem kind_ty {x : PV} {v : V} (r : RepV D H x v) (k : hasKind x = true) : TyX D.K H v (.type (kindS x)) := by
  cases x with
  | non =>
    rw [show v = .non from r]
    exact .base .non
  | bl b =>
    rw [show v = .bl b from r]
    exact .base (.bl b)
  | int b =>
    rw [show v = .int b from r]
    exact .base (.int b)
  | str b =>
    rw [r.2]
    exact .base (.str _)
  | lst xs =>
    obtain ⟨a, vs, rfl, h, _⟩ := r
    exact lsA_ty h
  | tup xs =>
    obtain ⟨a, vs, rfl, h, _⟩ := r
    exact sqT_ty h.sq
  | dic _ _ _ => cases k
  | fn _ => cases k
  | obj _ _ => cases k
theorem kit_isTy {K : PySem.W.Frag} (t : Ty) (x : PV) (k : hasKind x = true) : PySem.W.kitOne K (.type (kindS x)) (.type (tyS t)) = some (isTy t x) := by
  refine kit_ty ?_
  cases x <;> cases t <;> first | (exact absurd k Bool.false_ne_true) | (simp only [kindS, tyS, isTy]; decide +kernel)
theorem cr_isi (e : D.K = X.K) (t : Ty) : CallR X (.builtin "isinstance") (fun vs H Q => ∃ x pa, vs = [x, .ty (tyS t)] ∧ RepV D H pa x ∧ hasKind pa = true ∧ Q (.bl (isTy t pa)) H) := by
  intro pins s σ H vs us Q I rv h
  obtain ⟨x, pa, rfl, r, k, q⟩ := h
  exact call_isi pins s σ H _ us Q I rv ⟨x, _, _, _, _, rfl, .ty _, e ▸ kind_ty r k, e ▸ kit_isTy t pa k, q⟩
/-! ### truth -/
theorem tru_of {x : PV} {v : V} (r : RepV D H x v) {k : Bool} (h : truth x = some k) : TruV D.K v H k := by
  cases x with
  | non =>
    rw [show v = .non from r]
    exact (Option.some.inj h).symm
  | bl b =>
    rw [show v = .bl b from r]
    exact (Option.some.inj h).symm
  | int b =>
    rw [show v = .int b from r]
    exact (Option.some.inj h).symm
  | str s =>
    rw [r.2]
    have e : (!s.isEmpty) = k := Option.some.inj h
    refine ⟨by rw [len_S, sizeLine_eq]; exact r.1.1, ?_⟩
    rw [← e, len_S]
    cases s <;> simp
    omega
  | lst xs =>
    obtain ⟨a, vs, rfl, q, rr⟩ := r
    have e : (!xs.isEmpty) = k := Option.some.inj h
    refine .inl ⟨vs, q.sq, ?_⟩
    rw [← e]
    have := rr.length
    cases xs <;> cases vs <;> simp at this ⊢
  | tup xs =>
    obtain ⟨a, vs, rfl, q, rr⟩ := r
    have e : (!xs.isEmpty) = k := Option.some.inj h
    refine .inr (.inl ⟨vs, q.sq, ?_⟩)
    rw [← e]
    have := rr.length
    cases xs <;> cases vs <;> simp at this ⊢
  | dic _ _ _ => cases h
  | fn _ => cases h
  | obj _ _ => cases h
end
end Ev

/-! Ev6: expressions. -/
namespace Ev
open PySem PySem.Spec PyProof.Rows L2

def gm (ms : List Nat) (i : Nat) : Nat := ms.getD i 0
/-- how a value is handed over: known for ever; on its way, owned to a depth; a slot's own, lent -/
inductive Dl where | sh | own (n : Nat) | bor (i : Nat) | br (i n : Nat)
structure Sta where
  env : Env
  H : Hp
  G : Hp
  Fp : Fps
abbrev RelS (D : Dm) (ms : List Nat) (σ : L2.St) (s : Sta) : Prop := Rel D (gm ms) s.env σ s.H s.G s.Fp
abbrev ExtS (M : List Nat) (s s' : Sta) : Prop := Ext (· ∈ M) s.env s.H s.G s.Fp s'.env s'.H s'.G s'.Fp
def Dlv (D : Dm) (ms : List Nat) (σ : L2.St) (dl : Dl) (x : PV) (v : V) (s0 s : Sta) : Prop := match dl with
  | .sh => RepV D s.G x v
  | .own n => ∃ F, Tmp D n x v s.H s.G s.Fp F ∧ New s0.H s0.Fp F
  | .bor i => gm ms i = 1 ∧ getV s.env i = some x ∧ σ[i]? = some (some v)
  | .br i n => RepV D s.G x v ∨ ∃ F, (∀ b, b ∈ F → b ∈ s.Fp i) ∧ OwnR D s.G s.H n x v F

section
variable (D : Dm) (W : WX) (ms : List Nat)
def PoA {α β : Type} (σ : L2.St) (M : List Nat) (del : α → β → Sta → Sta → Prop) (s0 : Sta) (r : R α) (Q : β → Hp → Prop) : Prop := match r with
  | .ok a env => ∀ b H G Fp, RelS D ms σ ⟨env, H, G, Fp⟩ → ExtS M s0 ⟨env, H, G, Fp⟩ → del a b s0 ⟨env, H, G, Fp⟩ → Q b H
  | .ex k env => ∀ H G Fp, RelS D ms σ ⟨env, H, G, Fp⟩ → ExtS M s0 ⟨env, H, G, Fp⟩ → W (.ref (D.xa k)) none σ H
  | .st => False
def Rd {α β : Type} (M : List Nat) (del : L2.St → α → β → Sta → Sta → Prop) (ev : Env → R α) : L2.St → Hp → (β → Hp → Prop) → Prop :=
  fun σ H Q => ∃ env G Fp, RelS D ms σ ⟨env, H, G, Fp⟩ ∧ PoA D W ms σ M (del σ) ⟨env, H, G, Fp⟩ (ev env) Q
end

section
variable {D : Dm} {X : Cx} {C : Calls} {W : WX} {ms : List Nat} {M M1 M2 : List Nat} {σ : L2.St} {α β γ δ : Type}
theorem ExtS.back {s0 s1 : Sta} {F : List Addr} (E : ExtS M s0 s1) (n : New s1.H s1.Fp F) : New s0.H s0.Fp F := fun b o e h => by
  obtain ⟨e1, n1, _⟩ := E.far b o e h
  exact n b o e1 n1
theorem PoA.next {delc : γ → δ → Sta → Sta → Prop} {del0 : L2.St → α → β → Sta → Sta → Prop} {s0 s1 : Sta} {ev : Env → R α} {f : α → Env → R γ} {Q : δ → Hp → Prop} {T : β → Hp → Prop}
    (h : PoA D W ms σ M delc s0 ((ev s1.env).bind f) Q) (R1 : RelS D ms σ s1) (E1 : ExtS M s0 s1) (hM : ∀ i, i ∈ M2 → i ∈ M)
    (k : ∀ a b s2, RelS D ms σ s2 → ExtS M2 s1 s2 → ExtS M s0 s2 → del0 σ a b s1 s2 → PoA D W ms σ M delc s0 (f a s2.env) Q → T b s2.H) : Rd D W ms M2 del0 ev σ s1.H T := by
  refine ⟨s1.env, s1.G, s1.Fp, R1, ?_⟩
  unfold PoA
  cases e : ev s1.env with
  | ok a env =>
    intro b H G Fp R2 E2 d
    rw [e] at h
    exact k a b ⟨env, H, G, Fp⟩ R2 E2 (Ext.trans2 E1 E2 (fun _ q => q) hM) d h
  | ex c env =>
    intro H G Fp R2 E2
    rw [e] at h
    exact h H G Fp R2 (Ext.trans2 E1 E2 (fun _ q => q) hM)
  | st =>
    rw [e] at h
    exact h
theorem PoA.of {del : α → β → Sta → Sta → Prop} {s0 : Sta} {o : Option α} {env : Env} {Q : β → Hp → Prop} (h : PoA D W ms σ M del s0 (R.of o env) Q) :
    ∃ a, o = some a ∧ ∀ b H G Fp, RelS D ms σ ⟨env, H, G, Fp⟩ → ExtS M s0 ⟨env, H, G, Fp⟩ → del a b s0 ⟨env, H, G, Fp⟩ → Q b H := by
  cases o with
  | none => exact h.elim
  | some a => exact ⟨a, rfl, h⟩
theorem PE.imp {e : Expr} {t t' : TE} (p : PE X e t) (f : ∀ σ H Q, t' σ H Q → t σ H Q) : PE X e t' := ⟨fun pins s σ H Q I h => p.run pins s σ H Q I (f σ H Q h)⟩
theorem PT.imp {e : Expr} {t t' : TT} (p : PT X e t) (f : ∀ σ H Q, t' σ H Q → t σ H Q) : PT X e t' := ⟨fun pins s σ H Q I h => p.run pins s σ H Q I (f σ H Q h)⟩
theorem PW.imp {e : Expr} {t t' : TT} (p : PW X e t) (f : ∀ σ H Q, t' σ H Q → t σ H Q) : PW X e t' := ⟨fun w pins s σ H Q I h => p.run w pins s σ H Q I (f σ H Q h)⟩
theorem PA.imp {e : List Expr} {t t' : TA} (p : PA X e t) (f : ∀ σ H Q, t' σ H Q → t σ H Q) : PA X e t' := ⟨fun pos pins s σ H Q I h => p.run pos pins s σ H Q I (f σ H Q h)⟩
end

section
variable (D : Dm) (X : Cx) (C : Calls) (W : WX) (ms : List Nat)
/-- the expression e computes what the core text c tells -/
def SE (M : List Nat) (dl : Dl) (c : CE) (e : Expr) : Prop := PE X e (Rd D W ms M (fun σ => Dlv D ms σ dl) (evE C c))
def ST (M : List Nat) (c : CE) (e : Expr) : Prop := PT X e (Rd D W ms M (fun _ (a b : Bool) _ _ => a = b) (fun env => tst (evE C c env)))
def SW (M : List Nat) (c : CE) (e : Expr) : Prop := PW X e (Rd D W ms M (fun _ (a b : Bool) _ _ => a = b) (fun env => tst (evE C c env)))
def SAs (M : List Nat) (cs : List CE) (es : List Expr) : Prop := PA X es (Rd D W ms M (fun _ xs vs _ s => RepVs D s.G xs vs) (evEs C cs))
def SO (M : List Nat) (c : Option CE) (e : Option Expr) : Prop := PO X e (Rd D W ms M (fun _ (a b : Option Int) _ _ => a = b) (evO C c))
end

def opOk (dl : Dl) (M2 : List Nat) : Bool := match dl with
  | .sh => true
  | .own _ => false
  | .bor i => !M2.contains i
  | .br i n => !M2.contains i && n == 1

section
variable {D : Dm} {X : Cx} {C : Calls} {W : WX} {ms : List Nat} {M M1 M2 M3 : List Nat} {σ : L2.St} {α β γ δ : Type} {s0 s1 s2 : Sta} {x y : PV} {v u : V} {dl dl1 dl2 dl3 : Dl} {a b c : CE} {ea eb ec : Expr} {pos : Pos}
theorem own1_rd {D : Dm} {G H : Hp} {x : PV} {v : V} {F : List Addr} (o : OwnR D G H 1 x v F) : RdE D G H x v := by
  cases q : x.isL with
  | false => exact .inl ((OwnR.flat q).mp o).2
  | true =>
    cases x <;> simp [PV.isL] at q
    · obtain ⟨p, vs, Fs, e, hp, _, os⟩ := o
      exact .inr (.inl ⟨p, vs, _, rfl, e, hp, (OwnRs.toG os).1⟩)
    · obtain ⟨p, us, e, hp, _, os⟩ := o
      exact .inr (.inr ⟨p, _, _, us, _, rfl, e, hp, os⟩)
theorem Dlv.held (d : Dlv D ms σ dl x v s0 s1) (ok : opOk dl M2 = true) (E : ExtS M2 s1 s2) (R2 : RelS D ms σ s2) : RdE D s2.G s2.H x v := by
  cases dl with
  | sh => exact .inl (RepV.mono E.mono d)
  | own n => cases ok
  | bor i =>
    obtain ⟨h1, h2, h3⟩ := d
    have hi : ¬ i ∈ M2 := by simpa [opOk] using ok
    obtain ⟨_, e2⟩ := E.same i hi
    obtain ⟨w, e3, o⟩ := R2.at_ i x (e2.trans h2)
    rw [h3] at e3
    cases e3
    rw [h1] at o
    exact own1_rd o
  | br i n =>
    simp only [opOk, Bool.and_eq_true, Bool.not_eq_true', beq_iff_eq] at ok
    obtain ⟨ok, rfl⟩ := ok
    have hi : ¬ i ∈ M2 := by simpa using ok
    rcases d with d | ⟨F, hF, o⟩
    · exact .inl (RepV.mono E.mono d)
    have o := o.mono E.mono (H' := s2.H) fun b hb u e => E.own i b u (hF b hb) hi e
    exact own1_rd o
theorem Dlv.here (d : Dlv D ms σ dl x v s0 s1) (ok : opOk dl [] = true) (R1 : RelS D ms σ s1) : RdE D s1.G s1.H x v := d.held ok (M2 := []) Ext.refl R1
theorem Dlv.give (d : Dlv D ms σ dl x v s0 s1) (R1 : RelS D ms σ s1) (E : ExtS M s0 s1) (ok : ∀ i, dl ≠ .bor i) (ok2 : ∀ i n, dl ≠ .br i n) :
    ∃ G', RelS D ms σ { s1 with G := G' } ∧ ExtS M s0 { s1 with G := G' } ∧ RepV D G' x v := by
  cases dl with
  | sh => exact ⟨s1.G, R1, E, d⟩
  | own n =>
    obtain ⟨F, t, nw⟩ := d
    obtain ⟨G', h1, h2, h3, _⟩ := Ev.give R1 E t nw
    exact ⟨G', h1, h2, h3⟩
  | bor i => exact absurd rfl (ok i)
  | br i n => exact absurd rfl (ok2 i n)
/-- the end of an operation that makes a value -/
theorem fin_made {f : Bool} {H' G' : Hp} {r : PV} {Q : V → Hp → Prop} (R1 : RelS D ms σ s1) (E : ExtS M s0 s1) (m : Made D s1.G s1.H true r v H' G')
    (k : ∀ b H G Fp, RelS D ms σ ⟨s1.env, H, G, Fp⟩ → ExtS M s0 ⟨s1.env, H, G, Fp⟩ → Dlv D ms σ (.own 1) r b s0 ⟨s1.env, H, G, Fp⟩ → Q b H) : Q v H' := by
  obtain ⟨R2, E2, _, h⟩ := m.fin R1 E
  rcases h with h | ⟨F, t, n⟩
  · cases m with
    | old r f =>
      exact k v _ _ _ R2 E2 ⟨[], Tmp.flat r (f rfl), fun _ _ _ _ => List.not_mem_nil⟩
    | lst hp r =>
      obtain ⟨R1', a1, t1, n1⟩ := newL R1 E hp (OwnRs.ofG (H := s1.H) r) (fun _ h => nomatch h) List.Pairwise.nil (fun _ _ _ _ => List.not_mem_nil)
      exact k _ _ _ _ R1' a1 ⟨_, t1, n1⟩
    | tup hp r =>
      obtain ⟨R1', a1, m1⟩ := newG R1 E hp
      exact k _ _ _ _ R1' a1 ⟨[], Tmp.flat ⟨_, _, rfl, SqC.of upd_same, r.mono m1⟩ rfl, fun _ _ _ _ => List.not_mem_nil⟩
  · exact k v _ _ _ R2 E2 ⟨F, t, n⟩
theorem memL {M1 M2 : List Nat} : ∀ i, i ∈ M1 → i ∈ M1 ++ M2 := fun _ h => List.mem_append_left _ h
theorem memR {M1 M2 : List Nat} : ∀ i, i ∈ M2 → i ∈ M1 ++ M2 := fun _ h => List.mem_append_right _ h

theorem SE.weak (h : SE D X C W ms M1 dl a ea) (hM : ∀ i, i ∈ M1 → i ∈ M2) : SE D X C W ms M2 dl a ea := PE.imp h fun σ H Q ⟨env, G, Fp, R, p⟩ => by
  refine ⟨env, G, Fp, R, ?_⟩
  unfold PoA at p ⊢
  cases e : evE C a env with
  | ok x env1 => rw [e] at p; exact fun b H G Fp R E d => p b H G Fp R (E.weak hM) d
  | ex c env1 => rw [e] at p; exact fun H G Fp R E => p H G Fp R (E.weak hM)
  | st => rw [e] at p; exact p
/-- what is handed over in one way is handed over in another -/
theorem SE.to (h : SE D X C W ms M dl a ea) (k : ∀ σ x v s0 s1, RelS D ms σ s1 → ExtS M s0 s1 → Dlv D ms σ dl x v s0 s1 → ∃ G', RelS D ms σ { s1 with G := G' } ∧ ExtS M s0 { s1 with G := G' } ∧ Dlv D ms σ dl2 x v s0 { s1 with G := G' }) : SE D X C W ms M dl2 a ea := PE.imp h fun σ H Q ⟨env, G, Fp, R, p⟩ => by
  refine ⟨env, G, Fp, R, ?_⟩
  unfold PoA at p ⊢
  cases e : evE C a env with
  | ok x env1 =>
    rw [e] at p
    intro b H G Fp R E d
    obtain ⟨G', R', E', d'⟩ := k σ x b _ ⟨env1, H, G, Fp⟩ R E d
    exact p b H G' Fp R' E' d'
  | ex c env1 => rw [e] at p; exact p
  | st => rw [e] at p; exact p
theorem SE.give {n : Nat} (h : SE D X C W ms M (.own n) a ea) : SE D X C W ms M .sh a ea := SE.to h fun σ x v s0 s1 R E d => d.give R E (fun i h => nomatch h) (fun i n h => nomatch h)
theorem SE.own0 (h : SE D X C W ms M .sh a ea) : SE D X C W ms M (.own 0) a ea := SE.to h fun σ x v s0 s1 R E d => ⟨s1.G, R, E, [], Tmp.zero d, fun _ _ _ _ => List.not_mem_nil⟩

/-! ### the leaves -/
theorem Rd.ok_ {del : L2.St → α → β → Sta → Sta → Prop} {ev : Env → R α} {H : Hp} {Q : β → Hp → Prop} {p : α} {w : β} (h : Rd D W ms M del ev σ H Q) (he : ∀ env, ev env = .ok p env) (hd : ∀ s, del σ p w s s) : Q w H := by
  obtain ⟨env, G, Fp, R, p⟩ := h
  rw [he] at p
  exact p _ H G Fp R Ext.refl (hd _)
theorem s_non {j : Nat} : SE D X C W ms [] .sh .non (.Constant .none j pos) := PE.imp pe_non fun σ H Q h => Rd.ok_ (p := PV.non) h (fun _ => rfl) fun s => (show RepV D s.G .non .non from rfl)
theorem s_bl {j : Nat} {t : Bool} : SE D X C W ms [] .sh (.bl t) (.Constant (.bool t) j pos) := PE.imp pe_bl fun σ H Q h => Rd.ok_ (p := PV.bl t) h (fun _ => rfl) fun s => (show RepV D s.G (.bl t) (.bl t) from rfl)
theorem s_int {j : Nat} {t : Int} : SE D X C W ms [] .sh (.int t) (.Constant (.int t) j pos) := PE.imp pe_int fun σ H Q h => Rd.ok_ (p := PV.int t) h (fun _ => rfl) fun s => (show RepV D s.G (.int t) (.int t) from rfl)
def okSb (s : List Nat) : Bool := decide (s.length ≤ 16777216) && s.all fun c => decide (c < 1114112)
theorem okS_b {s : List Nat} (h : okSb s = true) : okS s := by
  simp only [okSb, Bool.and_eq_true, decide_eq_true_eq, List.all_eq_true] at h
  exact h
theorem s_str {j : Nat} {t : List Nat} {z : Str} (h : okSb t = true) (e : S t = z) : SE D X C W ms [] .sh (.str t) (.Constant (.str z) j pos) := by
  subst e
  exact PE.imp pe_str fun σ H Q h' => Rd.ok_ (p := PV.str t) h' (fun _ => rfl) fun s => (show RepV D s.G (.str t) (.str (S t)) from ⟨okS_b h, rfl⟩)
theorem s_gl {n : Nat} {p : PV} {w : V} {z : Value} {x : Str} (hg : Gl X x) (hm : X.mg x = some z) (hv : RelV w z) (hr : ∀ G, RepV D G p w) (hd : (x == ("__debug__" : Str)) = false) : SE D X C W ms [] .sh (.gl n p) (.Name x pos) :=
  PE.imp (pe_glob hg hm hv hd) fun σ H Q h => Rd.ok_ (p := p) h (fun _ => rfl) fun s => hr s.G
theorem s_var {i : Nat} {x : Str} (hN : X.N[i]? = some x) (hv : Vis X.env.scope x) (h0 : gm ms i = 0) (h1 : (x == ("__debug__" : Str)) = false) (h2 : (x == ("__classdict__" : Str)) = false) : SE D X C W ms [] .sh (.var i) (.Name x pos) := PE.imp (pe_var hN hv h1 h2) fun σ H Q ⟨env, G, Fp, R, p⟩ => by
  obtain ⟨y, e, k⟩ := PoA.of (o := getV env i) p
  obtain ⟨v, e1, o⟩ := R.at_ i y e
  rw [h0] at o
  exact ⟨v, e1, k v H G Fp R Ext.refl (OwnR.zero.mp o).2⟩
theorem s_bv {i : Nat} {x : Str} (hN : X.N[i]? = some x) (hv : Vis X.env.scope x) (h0 : gm ms i = 1) (h1 : (x == ("__debug__" : Str)) = false) (h2 : (x == ("__classdict__" : Str)) = false) : SE D X C W ms [] (.bor i) (.bv i) (.Name x pos) := PE.imp (pe_var hN hv h1 h2) fun σ H Q ⟨env, G, Fp, R, p⟩ => by
  obtain ⟨y, e, k⟩ := PoA.of (o := getV env i) p
  obtain ⟨v, e1, o⟩ := R.at_ i y e
  exact ⟨v, e1, k v H G Fp R Ext.refl ⟨h0, e, e1⟩⟩
theorem getV_set {env : Env} {i j : Nat} {o : Option PV} : getV (env.set i o) j = if i = j ∧ i < env.length then o else getV env j := by
  unfold getV
  rw [List.getElem?_set]
  by_cases h : i = j
  · subst h
    by_cases l : i < env.length
    · rw [if_pos rfl, if_pos l, if_pos ⟨rfl, l⟩]
      cases o <;> rfl
    · rw [if_pos rfl, if_neg l, if_neg (fun q => l q.2), List.getElem?_eq_none (by omega)]
  · rw [if_neg h, if_neg (fun q => h q.1)]
theorem getV_lt {env : Env} {i : Nat} {x : PV} (h : getV env i = some x) : i < env.length := by
  unfold getV at h
  by_cases l : i < env.length
  · exact l
  · rw [List.getElem?_eq_none (by omega)] at h
    cases h
theorem s_mv {i : Nat} {x : Str} (hN : X.N[i]? = some x) (hv : Vis X.env.scope x) (h1 : (x == ("__debug__" : Str)) = false) (h2 : (x == ("__classdict__" : Str)) = false) : SE D X C W ms [i] (.own (gm ms i)) (.mv i) (.Name x pos) := PE.imp (pe_var hN hv h1 h2) fun σ H Q ⟨env, G, Fp, R, p⟩ => by
  cases e : getV env i with
  | none =>
    have p' : PoA D W ms σ [i] _ _ (match getV env i with | some v => Ev.R.ok v (env.set i none) | none => .st) Q := p
    rw [e] at p'
    exact p'.elim
  | some y =>
    have p' : PoA D W ms σ [i] _ _ (match getV env i with | some v => Ev.R.ok v (env.set i none) | none => .st) Q := p
    rw [e] at p'
    obtain ⟨v, e1, o⟩ := R.at_ i y e
    refine ⟨v, e1, p' v H G (fun j => if j = i then [] else Fp j) ?_ ?_ ⟨Fp i, ⟨o, fun b hb => ⟨R.dis i b hb, fun j hj => ?_⟩, R.nd i⟩, fun b o e n h => n i h⟩⟩
    · refine ⟨fun j x q => ?_, fun j q => ?_, R.sub, fun j b hb => ?_, fun j => ?_, fun j k b hb hk => ?_, by simpa using R.len⟩
      · rw [getV_set] at q
        by_cases h : i = j ∧ i < env.length
        · rw [if_pos h] at q; cases q
        · rw [if_neg h] at q
          have hj : j ≠ i := fun z => h ⟨z.symm, getV_lt e⟩
          simpa [hj] using R.at_ j x q
      · by_cases h : j = i
        · simp [h]
        · simp only [h, if_false]
          rw [getV_set, if_neg (fun z => h z.1.symm)] at q
          exact R.no j q
      · dsimp only at hb
        by_cases h : j = i
        · simp [h] at hb
        · rw [if_neg h] at hb; exact R.dis j b hb
      · dsimp only
        by_cases h : j = i
        · simp [h]
        · rw [if_neg h]; exact R.nd j
      · dsimp only at hb hk
        by_cases h : j = i
        · simp [h] at hb
        · by_cases h' : k = i
          · simp [h'] at hk
          · rw [if_neg h] at hb
            rw [if_neg h'] at hk
            exact R.sep j k b hb hk
    · refine ⟨fun b o e n => ⟨e, fun j hj => ?_, fun q => q⟩, fun _ _ _ _ _ e => e, fun _ _ e => e, fun j hj => ?_⟩
      · dsimp only at hj
        by_cases h : j = i
        · simp [h] at hj
        · rw [if_neg h] at hj; exact n j hj
      · have h : j ≠ i := fun h => hj (by simp [h])
        refine ⟨by simp [h], ?_⟩
        dsimp only
        rw [getV_set, if_neg (fun z => h z.1.symm)]
    · dsimp only at hj
      by_cases h : j = i
      · simp [h] at hj
      · rw [if_neg h] at hj
        exact h (R.sep j i b hj hb)

/-! ### operations -/
theorem s_bin (e : D.K = X.K) {op : BO} {eo : Operator} (ho : opOf op = eo) (ha : SE D X C W ms M1 dl1 a ea) (hb : SE D X C W ms M2 dl2 b eb) (h1 : opOk dl1 M2 = true) (h2 : opOk dl2 [] = true) : SE D X C W ms (M1 ++ M2) (.own 1) (.bin op a b) (.BinOp ea eo eb pos) := by
  subst ho
  refine PE.imp (pe_op (op_bop e op) ha hb) fun σ H Q ⟨env, G, Fp, R, h⟩ => ?_
  refine PoA.next (s1 := ⟨env, H, G, Fp⟩) (del0 := fun σ => Dlv D ms σ dl1) h R Ext.refl memL fun x vx s1 R1 E1 E1' d1 h1' => ?_
  refine PoA.next (del0 := fun σ => Dlv D ms σ dl2) h1' R1 E1' memR fun y vy s2 R2 E2 E2' d2 h2' => ?_
  obtain ⟨r, hr, k⟩ := PoA.of h2'
  exact ⟨s2.G, x, y, r, R2.sub, d1.held h1 E2 R2, d2.here h2 R2, hr, fun v H' G' m => fin_made (f := true) R2 E2' m k⟩
theorem s_neg (ha : SE D X C W ms M dl a ea) (h1 : opOk dl [] = true) : SE D X C W ms M .sh (.neg a) (.UnaryOp .USub ea pos) := by
  refine PE.imp (pe_un un_neg ha) fun σ H Q ⟨env, G, Fp, R, h⟩ => ?_
  refine PoA.next (s1 := ⟨env, H, G, Fp⟩) (del0 := fun σ => Dlv D ms σ dl) h R Ext.refl (fun _ h => h) fun x vx s1 R1 E1 E1' d1 h1' => ?_
  obtain ⟨r, hr, k⟩ := PoA.of h1'
  cases x <;> simp at hr
  subst hr
  have := (d1.here h1 R1).int
  subst this
  exact ⟨_, rfl, k _ _ _ _ R1 E1' rfl⟩
theorem R.bind_assoc (r : R α) (f : α → Env → R β) (g : β → Env → R γ) : (r.bind f).bind g = r.bind fun a e => (f a e).bind g := by
  cases r <;> rfl
theorem s_nt (e : D.K = X.K) (ha : SE D X C W ms M dl a ea) (h1 : opOk dl [] = true) : SE D X C W ms M .sh (.nt a) (.UnaryOp .Not ea pos) := by
  refine PE.imp (pe_notT ha) fun σ H Q ⟨env, G, Fp, R, h⟩ => ?_
  have h : PoA D W ms σ M _ _ (((evE C a env).bind fun x e => Ev.R.of (truth x) e).bind fun b e1 => Ev.R.ok (PV.bl (!b)) e1) Q := h
  rw [Ev.R.bind_assoc] at h
  refine PoA.next (s1 := ⟨env, H, G, Fp⟩) (del0 := fun σ => Dlv D ms σ dl) h R Ext.refl (fun _ h => h) fun x vx s1 R1 E1 E1' d1 h1' => ?_
  cases q : truth x with
  | none => rw [q] at h1'; exact h1'.elim
  | some k =>
    rw [q] at h1'
    exact ⟨k, e ▸ tru_of ((d1.here h1 R1).rep R1.sub) q, h1' _ _ _ _ R1 E1' rfl⟩
theorem s_one {op : BoolOp} (ha : SE D X C W ms M dl a ea) : SE D X C W ms M dl a (.BoolOp op [ea] pos) := pe_one ha
theorem s_an (e : D.K = X.K) {r : List Expr} (ha : SE D X C W ms M1 .sh a ea) (hb : SE D X C W ms M2 .sh b (.BoolOp .And (eb :: r) pos)) : SE D X C W ms (M1 ++ M2) .sh (.an a b) (.BoolOp .And (ea :: eb :: r) pos) := by
  refine PE.imp (pe_andT ha hb) fun σ H Q ⟨env, G, Fp, R, h⟩ => ?_
  refine PoA.next (s1 := ⟨env, H, G, Fp⟩) (del0 := fun σ => Dlv D ms σ .sh) h R Ext.refl memL fun x vx s1 R1 E1 E1' d1 h1' => ?_
  cases q : truth x with
  | none => rw [q] at h1'; exact h1'.elim
  | some k =>
    rw [q] at h1'
    refine ⟨k, e ▸ tru_of (RepV.mono R1.sub d1) q, ?_⟩
    cases k with
    | true =>
      refine ⟨s1.env, s1.G, s1.Fp, R1, ?_⟩
      unfold PoA at h1' ⊢
      dsimp only at h1' ⊢
      cases ee : evE C b s1.env with
      | ok y e2 => rw [ee] at h1'; exact fun w H G Fp R E d => h1' w H G Fp R (Ext.trans2 E1' E (fun _ q => q) memR) d
      | ex y e2 => rw [ee] at h1'; exact fun H G Fp R E => h1' H G Fp R (Ext.trans2 E1' E (fun _ q => q) memR)
      | st => rw [ee] at h1'; exact h1'
    | false => exact h1' _ _ _ _ R1 E1' d1
theorem s_or (e : D.K = X.K) {r : List Expr} (ha : SE D X C W ms M1 .sh a ea) (hb : SE D X C W ms M2 .sh b (.BoolOp .Or (eb :: r) pos)) : SE D X C W ms (M1 ++ M2) .sh (.or a b) (.BoolOp .Or (ea :: eb :: r) pos) := by
  refine PE.imp (pe_orT ha hb) fun σ H Q ⟨env, G, Fp, R, h⟩ => ?_
  refine PoA.next (s1 := ⟨env, H, G, Fp⟩) (del0 := fun σ => Dlv D ms σ .sh) h R Ext.refl memL fun x vx s1 R1 E1 E1' d1 h1' => ?_
  cases q : truth x with
  | none => rw [q] at h1'; exact h1'.elim
  | some k =>
    rw [q] at h1'
    refine ⟨k, e ▸ tru_of (RepV.mono R1.sub d1) q, ?_⟩
    cases k with
    | false =>
      refine ⟨s1.env, s1.G, s1.Fp, R1, ?_⟩
      unfold PoA at h1' ⊢
      dsimp only at h1' ⊢
      cases ee : evE C b s1.env with
      | ok y e2 => rw [ee] at h1'; exact fun w H G Fp R E d => h1' w H G Fp R (Ext.trans2 E1' E (fun _ q => q) memR) d
      | ex y e2 => rw [ee] at h1'; exact fun H G Fp R E => h1' H G Fp R (Ext.trans2 E1' E (fun _ q => q) memR)
      | st => rw [ee] at h1'; exact h1'
    | true => exact h1' _ _ _ _ R1 E1' d1
theorem s_cmp (e : D.K = X.K) (hu : X.A.units + 65 < cLine) {op : CO} {eo : CmpOp} (ho : cOf op = eo) (ha : SE D X C W ms M1 dl1 a ea) (hb : SE D X C W ms M2 dl2 b eb) (h1 : opOk dl1 M2 = true) (h2 : opOk dl2 [] = true) (hm : behindInMarks eo eb = false) : SE D X C W ms (M1 ++ M2) .sh (.cmp op a b) (.Compare ea [eo] [eb] pos) := by
  subst ho
  refine PE.imp (pe_cmpR (op_cop e hu op) ha hb hm) fun σ H Q ⟨env, G, Fp, R, h⟩ => ?_
  refine PoA.next (s1 := ⟨env, H, G, Fp⟩) (del0 := fun σ => Dlv D ms σ dl1) h R Ext.refl memL fun x vx s1 R1 E1 E1' d1 h1' => ?_
  refine PoA.next (del0 := fun σ => Dlv D ms σ dl2) h1' R1 E1' memR fun y vy s2 R2 E2 E2' d2 h2' => ?_
  obtain ⟨r, hr, k⟩ := PoA.of h2'
  simp only [Option.map_eq_some_iff] at hr
  obtain ⟨t, ht, rfl⟩ := hr
  exact ⟨s2.G, x, y, t, R2.sub, d1.held h1 E2 R2, d2.here h2 R2, ht, k _ _ _ _ R2 E2' rfl⟩
theorem s_chn (e : D.K = X.K) (hu : X.A.units + 65 < cLine) {o1 o2 : CO} {p1 p2 : CmpOp} (q1 : cOf o1 = p1) (q2 : cOf o2 = p2) (ha : SE D X C W ms M1 dl1 a ea) (hb : SE D X C W ms M2 dl2 b eb) (hc : SE D X C W ms M3 dl3 c ec) (h1 : opOk dl1 M2 = true) (h2 : opOk dl2 [] = true) (h2' : opOk dl2 M3 = true) (h3 : opOk dl3 [] = true)
    (hm : lastMarks [p1, p2] [eb, ec] = false) : SE D X C W ms (M1 ++ (M2 ++ M3)) .sh (.chn o1 o2 a b c) (.Compare ea [p1, p2] [eb, ec] pos) := by
  subst q1 q2
  refine PE.imp (pe_chain (op_cop e hu o1) (op_cop e hu o2) ha hb hc hm) fun σ H Q ⟨env, G, Fp, R, h⟩ => ?_
  refine PoA.next (s1 := ⟨env, H, G, Fp⟩) (del0 := fun σ => Dlv D ms σ dl1) h R Ext.refl memL fun x vx s1 R1 E1 E1' d1 k1 => ?_
  refine PoA.next (del0 := fun σ => Dlv D ms σ dl2) k1 R1 E1' (fun i h => memR _ (memL _ h)) fun y vy s2 R2 E2 E2' d2 k2 => ?_
  cases q : cop o1 x y with
  | none => rw [q] at k2; exact k2.elim
  | some t =>
    rw [q] at k2
    refine ⟨s2.G, x, y, t, R2.sub, d1.held h1 E2 R2, d2.here h2 R2, q, t, rfl, ?_⟩
    cases t with
    | false => exact k2 _ _ _ _ R2 E2' rfl
    | true =>
      rw [if_pos rfl]
      refine PoA.next (del0 := fun σ => Dlv D ms σ dl3) k2 R2 E2' (fun i h => memR _ (memR _ h)) fun z vz s3 R3 E3 E3' d3 k3 => ?_
      obtain ⟨r, hr, k⟩ := PoA.of k3
      simp only [Option.map_eq_some_iff] at hr
      obtain ⟨t, ht, rfl⟩ := hr
      exact ⟨s3.G, y, z, t, R3.sub, d2.held h2' E3 R3, d3.here h3 R3, ht, k _ _ _ _ R3 E3' rfl⟩
/-- the rest of a choice -/
theorem PoA.rest {del : L2.St → α → β → Sta → Sta → Prop} {ev : Env → R α} {Q : β → Hp → Prop} (h : PoA D W ms σ M (del σ) s0 (ev s1.env) Q) (R1 : RelS D ms σ s1) (E1 : ExtS M s0 s1) (hM : ∀ i, i ∈ M2 → i ∈ M)
    (hd : ∀ a b s, del σ a b s1 s → del σ a b s0 s) : Rd D W ms M2 del ev σ s1.H Q := by
  refine ⟨s1.env, s1.G, s1.Fp, R1, ?_⟩
  unfold PoA at h ⊢
  cases ee : ev s1.env with
  | ok y e2 => rw [ee] at h; exact fun w H G Fp R E d => h w H G Fp R (Ext.trans2 E1 E (fun _ q => q) hM) (hd _ _ _ d)
  | ex y e2 => rw [ee] at h; exact fun H G Fp R E => h H G Fp R (Ext.trans2 E1 E (fun _ q => q) hM)
  | st => rw [ee] at h; exact h
theorem Dlv.back (E : ExtS M s0 s1) (d : Dlv D ms σ dl x v s1 s2) : Dlv D ms σ dl x v s0 s2 := by
  cases dl with
  | sh => exact d
  | own n =>
    obtain ⟨F, t, nw⟩ := d
    exact ⟨F, t, E.back nw⟩
  | br i n => exact d
  | bor i => exact d
theorem s_ite (hc : ST D X C W ms M1 c ec) (ha : SE D X C W ms M2 dl a ea) (hb : SE D X C W ms M3 dl b eb) : SE D X C W ms (M1 ++ (M2 ++ M3)) dl (.ite c a b) (.IfExp ec ea eb pos) := by
  refine PE.imp (pe_ifExp hc ha hb) fun σ H Q ⟨env, G, Fp, R, h⟩ => ?_
  refine PoA.next (s1 := ⟨env, H, G, Fp⟩) (ev := fun env => tst (evE C c env)) (del0 := fun _ a b _ _ => a = b) h R Ext.refl memL fun t t' s1 R1 E1 E1' d1 k1 => ?_
  subst d1
  cases t with
  | true =>
    rw [if_pos rfl] at k1 ⊢
    exact PoA.rest (s0 := ⟨env, H, G, Fp⟩) (del := fun σ => Dlv D ms σ dl) (ev := evE C a) k1 R1 E1' (fun i h => memR _ (memL _ h)) (fun a b s d => Dlv.back E1' d)
  | false =>
    rw [if_neg (by simp)] at k1 ⊢
    exact PoA.rest (s0 := ⟨env, H, G, Fp⟩) (del := fun σ => Dlv D ms σ dl) (ev := evE C b) k1 R1 E1' (fun i h => memR _ (memR _ h)) (fun a b s d => Dlv.back E1' d)
theorem s_idx (e : D.K = X.K) (hu : X.A.units + 65 < cLine) (ha : SE D X C W ms M1 dl1 a ea) (hb : SE D X C W ms M2 dl2 b eb) (h1 : opOk dl1 M2 = true) (h2 : opOk dl2 [] = true) (hp : PlainIx eb) : SE D X C W ms (M1 ++ M2) .sh (.idx a b) (.Subscript ea eb pos) := by
  refine PE.imp (pe_ix (ix_idx e hu) ha hb hp) fun σ H Q ⟨env, G, Fp, R, h⟩ => ?_
  refine PoA.next (s1 := ⟨env, H, G, Fp⟩) (del0 := fun σ => Dlv D ms σ dl1) h R Ext.refl memL fun x vx s1 R1 E1 E1' d1 h1' => ?_
  refine PoA.next (del0 := fun σ => Dlv D ms σ dl2) h1' R1 E1' memR fun y vy s2 R2 E2 E2' d2 h2' => ?_
  obtain ⟨r, hr, k⟩ := PoA.of h2'
  exact ⟨s2.G, x, y, r, R2.sub, d1.held h1 E2 R2, d2.here h2 R2, hr, fun v rv => k _ _ _ _ R2 E2' rv⟩
theorem so_none : SO D X C W ms [] none none := ⟨fun pins s σ H Q I h => po_none.run pins s σ H Q I (by
  obtain ⟨env, G, Fp, R, p⟩ := h
  exact p none H G Fp R Ext.refl rfl)⟩
theorem so_some (ha : SE D X C W ms M dl a ea) (h1 : opOk dl [] = true) : SO D X C W ms M (some a) (some ea) := ⟨fun pins s σ H Q I h => (po_some ha).run pins s σ H Q I (by
  obtain ⟨env, G, Fp, R, h⟩ := h
  refine PoA.next (s1 := ⟨env, H, G, Fp⟩) (del0 := fun σ => Dlv D ms σ dl) h R Ext.refl (fun _ h => h) fun x vx s1 R1 E1 E1' d1 h1' => ?_
  cases x <;> first | exact h1'.elim | skip
  have := (d1.here h1 R1).int
  subst this
  exact ⟨_, rfl, h1' _ _ _ _ R1 E1' rfl⟩)⟩
theorem s_sl (e : D.K = X.K) {lo hi : Option CE} {el eh : Option Expr} {p2 : Pos} (ha : SE D X C W ms M1 dl1 a ea) (hl : SO D X C W ms M2 lo el) (hh : SO D X C W ms M3 hi eh) (h1 : opOk dl1 (M2 ++ M3) = true) : SE D X C W ms (M1 ++ (M2 ++ M3)) (.own 1) (.sl a lo hi) (.Subscript ea (.Slice el eh none p2) pos) := by
  refine PE.imp (pe_slice (sl_slc e) ha hl hh) fun σ H Q ⟨env, G, Fp, R, h⟩ => ?_
  refine PoA.next (s1 := ⟨env, H, G, Fp⟩) (del0 := fun σ => Dlv D ms σ dl1) h R Ext.refl memL fun x vx s1 R1 E1 E1' d1 k1 => ?_
  refine PoA.next (ev := evO C lo) (del0 := fun _ a b _ _ => a = b) k1 R1 E1' (fun i h => memR _ (memL _ h)) fun l l' s2 R2 E2 E2' d2 k2 => ?_
  refine PoA.next (ev := evO C hi) (del0 := fun _ a b _ _ => a = b) k2 R2 E2' (fun i h => memR _ (memR _ h)) fun u u' s3 R3 E3 E3' d3 k3 => ?_
  subst d2 d3
  obtain ⟨r, hr, k⟩ := PoA.of k3
  exact ⟨s3.G, x, r, R3.sub, d1.held h1 (Ext.trans2 E2 E3 memL memR) R3, hr, fun v H' G' m => fin_made (f := true) R3 E3' m k⟩
end
end Ev

/-! Ev7: tests, displays, calls of built-ins. -/
namespace Ev
open PySem PySem.Spec PyProof.Rows L2
section
variable {D : Dm} {X : Cx} {C : Calls} {W : WX} {ms : List Nat} {M M1 M2 M3 : List Nat} {σ : L2.St} {α β γ δ : Type} {s0 s1 s2 : Sta} {x y : PV} {v u : V} {dl dl1 dl2 dl3 : Dl} {a b c : CE} {ea eb ec : Expr} {pos : Pos}
/-! ### tests -/
theorem st_tr (e : D.K = X.K) (ha : SE D X C W ms M dl a ea) (h1 : opOk dl [] = true)
    (he : ∀ whole, PySem.isTrue ea X.env whole = (do let v ← whole; standAt ea.pos; holding [v] (truthy v))) : ST D X C W ms M a ea := by
  refine PT.imp (pt_truth ha he) fun σ H Q ⟨env, G, Fp, R, h⟩ => ?_
  refine PoA.next (s1 := ⟨env, H, G, Fp⟩) (ev := evE C a) (f := fun x e => Ev.R.of (truth x) e) (del0 := fun σ => Dlv D ms σ dl) h R Ext.refl (fun _ h => h) fun x vx s1 R1 E1 E1' d1 h1' => ?_
  obtain ⟨k, hk, q⟩ := PoA.of h1'
  exact ⟨k, e ▸ tru_of ((d1.here h1 R1).rep R1.sub) hk, q _ _ _ _ R1 E1' rfl⟩
theorem st_cmp (e : D.K = X.K) (hu : X.A.units + 65 < cLine) {op : CO} {eo : CmpOp} (ho : cOf op = eo) (ha : SE D X C W ms M1 dl1 a ea) (hb : SE D X C W ms M2 dl2 b eb) (h1 : opOk dl1 M2 = true) (h2 : opOk dl2 [] = true) (hm : behindInMarks eo eb = false) : ST D X C W ms (M1 ++ M2) (.cmp op a b) (.Compare ea [eo] [eb] pos) := by
  subst ho
  refine PT.imp (pt_cmpR (op_cop e hu op) ha hb hm) fun σ H Q ⟨env, G, Fp, R, h⟩ => ?_
  have h : PoA D W ms σ (M1 ++ M2) (fun a b _ _ => a = b) _ (((evE C a env).bind fun x e1 => (evE C b e1).bind fun y e2 => Ev.R.of ((cop op x y).map .bl) e2).bind fun x e => Ev.R.of (truth x) e) Q := h
  rw [Ev.R.bind_assoc] at h
  refine PoA.next (s1 := ⟨env, H, G, Fp⟩) (ev := evE C a) (del0 := fun σ => Dlv D ms σ dl1) h R Ext.refl memL fun x vx s1 R1 E1 E1' d1 h1' => ?_
  rw [Ev.R.bind_assoc] at h1'
  refine PoA.next (ev := evE C b) (del0 := fun σ => Dlv D ms σ dl2) h1' R1 E1' memR fun y vy s2 R2 E2 E2' d2 h2' => ?_
  cases q : cop op x y with
  | none => rw [q] at h2'; exact h2'.elim
  | some t =>
    rw [q] at h2'
    exact ⟨s2.G, x, y, t, R2.sub, d1.held h1 E2 R2, d2.here h2 R2, q, t, rfl, h2' _ _ _ _ R2 E2' rfl⟩
theorem st_chn (e : D.K = X.K) (hu : X.A.units + 65 < cLine) {o1 o2 : CO} {p1 p2 : CmpOp} (q1 : cOf o1 = p1) (q2 : cOf o2 = p2) (ha : SE D X C W ms M1 dl1 a ea) (hb : SE D X C W ms M2 dl2 b eb) (hc : SE D X C W ms M3 dl3 c ec) (h1 : opOk dl1 M2 = true) (h2 : opOk dl2 [] = true) (h2' : opOk dl2 M3 = true) (h3 : opOk dl3 [] = true)
    (hm : lastMarks [p1, p2] [eb, ec] = false) : ST D X C W ms (M1 ++ (M2 ++ M3)) (.chn o1 o2 a b c) (.Compare ea [p1, p2] [eb, ec] pos) := by
  subst q1 q2
  refine PT.imp (pt_chain (op_cop e hu o1) (op_cop e hu o2) ha hb hc hm) fun σ H Q ⟨env, G, Fp, R, h⟩ => ?_
  have h : PoA D W ms σ (M1 ++ (M2 ++ M3)) (fun a b _ _ => a = b) _ (((evE C a env).bind fun x e1 => (evE C b e1).bind fun y e2 => match cop o1 x y with
    | some true => (evE C c e2).bind fun z e3 => Ev.R.of ((cop o2 y z).map .bl) e3
    | some false => .ok (.bl false) e2
    | none => .st).bind fun x e => Ev.R.of (truth x) e) Q := h
  rw [Ev.R.bind_assoc] at h
  refine PoA.next (s1 := ⟨env, H, G, Fp⟩) (ev := evE C a) (del0 := fun σ => Dlv D ms σ dl1) h R Ext.refl memL fun x vx s1 R1 E1 E1' d1 k1 => ?_
  rw [Ev.R.bind_assoc] at k1
  refine PoA.next (ev := evE C b) (del0 := fun σ => Dlv D ms σ dl2) k1 R1 E1' (fun i h => memR _ (memL _ h)) fun y vy s2 R2 E2 E2' d2 k2 => ?_
  cases q : cop o1 x y with
  | none => rw [q] at k2; exact k2.elim
  | some t =>
    rw [q] at k2
    refine ⟨s2.G, x, y, t, R2.sub, d1.held h1 E2 R2, d2.here h2 R2, q, t, rfl, ?_⟩
    cases t with
    | false => exact ⟨false, rfl, k2 _ _ _ _ R2 E2' rfl⟩
    | true =>
      rw [if_pos rfl]
      dsimp only at k2
      rw [Ev.R.bind_assoc] at k2
      refine PoA.next (ev := evE C c) (del0 := fun σ => Dlv D ms σ dl3) k2 R2 E2' (fun i h => memR _ (memR _ h)) fun z vz s3 R3 E3 E3' d3 k3 => ?_
      cases q' : cop o2 y z with
      | none => rw [q'] at k3; exact k3.elim
      | some t =>
        rw [q'] at k3
        exact ⟨s3.G, y, z, t, R3.sub, d2.held h2' E3 R3, d3.here h3 R3, q', t, rfl, k3 _ _ _ _ R3 E3' rfl⟩
theorem tst_nt (env : Env) : tst (evE C (.nt a) env) = (tst (evE C a env)).bind fun b e => .ok (!b) e := by
  show (((tst (evE C a env)).bind fun b e1 => (Ev.R.ok (PV.bl (!b)) e1 : Ev.R PV)).bind fun x e => Ev.R.of (truth x) e) = _
  rw [Ev.R.bind_assoc]
  rfl
theorem st_nt (ha : ST D X C W ms M a ea) : ST D X C W ms M (.nt a) (.UnaryOp .Not ea pos) := by
  refine PT.imp (pt_not ha) fun σ H Q ⟨env, G, Fp, R, h⟩ => ?_
  dsimp only at h
  rw [tst_nt] at h
  refine PoA.next (s1 := ⟨env, H, G, Fp⟩) (ev := fun env => tst (evE C a env)) (del0 := fun _ a b _ _ => a = b) h R Ext.refl (fun _ h => h) fun x vx s1 R1 E1 E1' d1 h1' => ?_
  subst d1
  exact h1' _ _ _ _ R1 E1' rfl
theorem tst_an (env : Env) : tst (evE C (.an a b) env) = (tst (evE C a env)).bind fun t e => if t then tst (evE C b e) else .ok false e := by
  show ((evE C a env).bind fun x e1 => match truth x with
    | some true => evE C b e1
    | some false => .ok x e1
    | none => .st).bind _ = ((evE C a env).bind _).bind _
  rw [Ev.R.bind_assoc, Ev.R.bind_assoc]
  congr 1
  funext x e
  cases q : truth x with
  | none => rfl
  | some k =>
    cases k with
    | true => rfl
    | false =>
      show Ev.R.of (truth x) e = _
      rw [q]
      rfl
theorem tst_or (env : Env) : tst (evE C (.or a b) env) = (tst (evE C a env)).bind fun t e => if t then .ok true e else tst (evE C b e) := by
  show ((evE C a env).bind fun x e1 => match truth x with
    | some true => .ok x e1
    | some false => evE C b e1
    | none => .st).bind _ = ((evE C a env).bind _).bind _
  rw [Ev.R.bind_assoc, Ev.R.bind_assoc]
  congr 1
  funext x e
  cases q : truth x with
  | none => rfl
  | some k =>
    cases k with
    | true =>
      show Ev.R.of (truth x) e = _
      rw [q]
      rfl
    | false => rfl
theorem tst_ite (env : Env) : tst (evE C (.ite c a b) env) = (tst (evE C c env)).bind fun t e => if t then tst (evE C a e) else tst (evE C b e) := by
  show ((tst (evE C c env)).bind fun t e1 => if t then evE C a e1 else evE C b e1).bind _ = _
  rw [Ev.R.bind_assoc]
  congr 1
  funext t e
  cases t <;> rfl
theorem sw_one {op : BoolOp} (ha : ST D X C W ms M a ea) : SW D X C W ms M a (.BoolOp op [ea] pos) := by
  cases op with
  | And => exact pw_and1 ha
  | Or => exact pw_or1 ha
theorem sw_an {r : List Expr} (ha : ST D X C W ms M1 a ea) (hb : SW D X C W ms M2 b (.BoolOp .And (eb :: r) pos)) : SW D X C W ms (M1 ++ M2) (.an a b) (.BoolOp .And (ea :: eb :: r) pos) := by
  refine PW.imp (pw_and ha hb) fun σ H Q ⟨env, G, Fp, R, h⟩ => ?_
  dsimp only at h
  rw [tst_an] at h
  refine PoA.next (s1 := ⟨env, H, G, Fp⟩) (ev := fun env => tst (evE C a env)) (del0 := fun _ a b _ _ => a = b) h R Ext.refl memL fun t t' s1 R1 E1 E1' d1 k1 => ?_
  subst d1
  cases t with
  | true =>
    rw [if_pos rfl] at k1 ⊢
    exact PoA.rest (del := fun _ (a b : Bool) _ _ => a = b) (ev := fun env => tst (evE C b env)) k1 R1 E1' memR (fun a b s d => d)
  | false => exact k1 _ _ _ _ R1 E1' rfl
theorem sw_or {r : List Expr} (ha : ST D X C W ms M1 a ea) (hb : SW D X C W ms M2 b (.BoolOp .Or (eb :: r) pos)) : SW D X C W ms (M1 ++ M2) (.or a b) (.BoolOp .Or (ea :: eb :: r) pos) := by
  refine PW.imp (pw_or ha hb) fun σ H Q ⟨env, G, Fp, R, h⟩ => ?_
  dsimp only at h
  rw [tst_or] at h
  refine PoA.next (s1 := ⟨env, H, G, Fp⟩) (ev := fun env => tst (evE C a env)) (del0 := fun _ a b _ _ => a = b) h R Ext.refl memL fun t t' s1 R1 E1 E1' d1 k1 => ?_
  subst d1
  cases t with
  | false =>
    rw [if_neg (by simp)] at k1 ⊢
    exact PoA.rest (del := fun _ (a b : Bool) _ _ => a = b) (ev := fun env => tst (evE C b env)) k1 R1 E1' memR (fun a b s d => d)
  | true => exact k1 _ _ _ _ R1 E1' rfl
theorem st_w (h : SW D X C W ms M a ea) : ST D X C W ms M a ea := ⟨fun pins s σ H Q I q => h.run _ pins s σ H Q I q⟩

/-! ### displays -/
theorem sa_nil : SAs D X C W ms [] [] [] := PA.imp pa_nil fun σ H Q ⟨env, G, Fp, R, h⟩ => h [] H G Fp R Ext.refl rfl
theorem sa_cons {cs : List CE} {es : List Expr} (ha : SE D X C W ms M1 .sh a ea) (hs : SAs D X C W ms M2 cs es) (hst : starEach (ea :: es) X.env = (false, eval ea X.env) :: starEach es X.env) : SAs D X C W ms (M1 ++ M2) (a :: cs) (ea :: es) := by
  refine PA.imp (pa_cons ha hs hst) fun σ H Q ⟨env, G, Fp, R, h⟩ => ?_
  refine PoA.next (s1 := ⟨env, H, G, Fp⟩) (del0 := fun σ => Dlv D ms σ .sh) (ev := evE C a) h R Ext.refl memL fun x vx s1 R1 E1 E1' d1 k1 => ?_
  refine PoA.next (del0 := fun _ xs vs _ s => RepVs D s.G xs vs) (ev := evEs C cs) k1 R1 E1' memR fun xs vs s2 R2 E2 E2' d2 k2 => ?_
  exact k2 _ _ _ _ R2 E2' ⟨vx, vs, rfl, RepV.mono E2.mono d1, d2⟩
theorem evEs_len : ∀ {cs : List CE} {env : Env} {vs : List PV} {e : Env}, evEs C cs env = .ok vs e → vs.length = cs.length
  | [], env, vs, e, h => by
    cases h
    rfl
  | c :: cs, env, vs, e, h => by
    have h : ((evE C c env).bind fun v e1 => (evEs C cs e1).bind fun vs e2 => .ok (v :: vs) e2) = .ok vs e := h
    cases q : evE C c env with
    | ok a e1 =>
      rw [q] at h
      have h : ((evEs C cs e1).bind fun vs e2 => Ev.R.ok (a :: vs) e2) = .ok vs e := h
      cases q' : evEs C cs e1 with
      | ok b e2 =>
        rw [q'] at h
        cases h
        simp [evEs_len q']
      | ex c e => rw [q'] at h; cases h
      | st => rw [q'] at h; cases h
    | ex c e => rw [q] at h; cases h
    | st => rw [q] at h; cases h
theorem PoA.nextE {M : List Nat} {delc : γ → δ → Sta → Sta → Prop} {del0 : L2.St → α → β → Sta → Sta → Prop} {s0 s1 : Sta} {ev : Env → R α} {f : α → Env → R γ} {Q : δ → Hp → Prop} {T : β → Hp → Prop}
    (h : PoA D W ms σ M delc s0 ((ev s1.env).bind f) Q) (R1 : RelS D ms σ s1) (E1 : ExtS M s0 s1) (hM : ∀ i, i ∈ M2 → i ∈ M)
    (k : ∀ a b s2, ev s1.env = .ok a s2.env → RelS D ms σ s2 → ExtS M2 s1 s2 → ExtS M s0 s2 → del0 σ a b s1 s2 → PoA D W ms σ M delc s0 (f a s2.env) Q → T b s2.H) : Rd D W ms M2 del0 ev σ s1.H T := by
  refine ⟨s1.env, s1.G, s1.Fp, R1, ?_⟩
  unfold PoA
  cases e : ev s1.env with
  | ok a env =>
    intro b H G Fp R2 E2 d
    rw [e] at h
    exact k a b ⟨env, H, G, Fp⟩ e R2 E2 (Ext.trans2 E1 E2 (fun _ q => q) hM) d h
  | ex c env =>
    intro H G Fp R2 E2
    rw [e] at h
    exact h H G Fp R2 (Ext.trans2 E1 E2 (fun _ q => q) hM)
  | st =>
    rw [e] at h
    exact h
theorem s_lst {cs : List CE} {es : List Expr} {d : Nat} (hs : SAs D X C W ms M cs es) (hl : decide (cs.length ≤ 10000) = true) : SE D X C W ms M (.own 1) (.lst d cs) (.List es pos) := by
  have hl : cs.length ≤ 10000 := of_decide_eq_true hl
  refine PE.imp (pe_lst hs) fun σ H Q ⟨env, G, Fp, R, h⟩ => ?_
  refine PoA.nextE (s1 := ⟨env, H, G, Fp⟩) (del0 := fun _ xs vs _ s => RepVs D s.G xs vs) (ev := evEs C cs) h R Ext.refl (fun _ h => h) fun xs vs s1 ee R1 E1 E1' d1 k1 => ?_
  refine ⟨?_, fun p hp => ?_⟩
  · rw [← d1.length, evEs_len ee]
    show cs.length ≤ 16777216
    omega
  · exact fin_made (f := true) R1 E1' (Made.lst hp d1) k1
theorem s_tup {cs : List CE} {es : List Expr} {n : Nat} (hs : SAs D X C W ms M cs es) (hl : decide (cs.length ≤ 10000) = true) : SE D X C W ms M .sh (.tup cs) (.Tuple es n pos) := by
  have hl : cs.length ≤ 10000 := of_decide_eq_true hl
  refine PE.imp (pe_tup hs) fun σ H Q ⟨env, G, Fp, R, h⟩ => ?_
  refine PoA.nextE (s1 := ⟨env, H, G, Fp⟩) (del0 := fun _ xs vs _ s => RepVs D s.G xs vs) (ev := evEs C cs) h R Ext.refl (fun _ h => h) fun xs vs s1 ee R1 E1 E1' d1 k1 => ?_
  refine ⟨?_, fun p hp => ?_⟩
  · rw [← d1.length, evEs_len ee]
    show cs.length ≤ 16777216
    omega
  · obtain ⟨R1', a1, m1⟩ := newG R1 E1' hp
    exact k1 _ _ _ _ R1' a1 ⟨_, _, rfl, SqC.of upd_same, RepVs.mono m1 d1⟩

/-! ### calls of built-ins -/
theorem s_b1 (e : D.K = X.K) (hc : X.calm = true) {q : B1} {nm : Str} (hn : b1N q = nm) {p : Pos} (hg : Gl X nm) (hm : X.mg nm = none) (ha : SE D X C W ms M dl a ea) (h1 : opOk dl [] = true) (hst : starEach [ea] X.env = (false, eval ea X.env) :: starEach [] X.env) : SE D X C W ms M (.own 1) (.b1 q a) (.Call (.Name nm p) [ea] [] pos) := by
  subst hn
  have key : PE X (.Call (.Name (b1N q) p) [ea] [] pos) (tCB (fun vs H Q => ∃ G x pa r, vs = [x] ∧ (∀ b o, G b = some o → H b = some o) ∧ RdE D G H pa x ∧ b1 q pa = some r ∧ ∀ v H' G', Made D G H true r v H' G' → Q v H') (tCons (Rd D W ms M (fun σ => Dlv D ms σ dl) (evE C a)) tNil)) := by
    have pa := pa_cons ha pa_nil hst
    have cr := cr_b1 (X := X) e hc q
    have bt := b1_boot q
    have ne : b1N q ≠ ("__name__" : Str) := by cases q <;> decide +kernel
    have nd : (b1N q == ("__debug__" : Str)) = false := by cases q <;> decide +kernel
    cases q <;> first | exact pe_callB cr hg hm bt pa ne nd hst rfl | exact pe_callTy cr hg hm bt pa ne nd hst rfl
  refine PE.imp key fun σ H Q ⟨env, G, Fp, R, h⟩ => ?_
  refine PoA.next (s1 := ⟨env, H, G, Fp⟩) (del0 := fun σ => Dlv D ms σ dl) h R Ext.refl (fun _ h => h) fun x vx s1 R1 E1 E1' d1 h1' => ?_
  obtain ⟨r, hr, k⟩ := PoA.of h1'
  exact ⟨s1.G, vx, x, r, rfl, R1.sub, d1.here h1 R1, hr, fun v H' G' m => fin_made (f := true) R1 E1' m k⟩
theorem s_b2 (hc : X.calm = true) {q : B2} {nm : Str} (hn : b2N q = nm) {p : Pos} (hg : Gl X nm) (hm : X.mg nm = none) (ha : SE D X C W ms M1 dl1 a ea) (hb : SE D X C W ms M2 dl2 b eb) (h1 : opOk dl1 M2 = true) (h2 : opOk dl2 [] = true) (hst : starEach [ea, eb] X.env = (false, eval ea X.env) :: starEach [eb] X.env) (hst2 : starEach [eb] X.env = (false, eval eb X.env) :: starEach [] X.env)
    (hb3 : ((backTo pos (starEach [eb] X.env)).any fun x => x.fst) = false) : SE D X C W ms (M1 ++ M2) (.own 1) (.b2 q a b) (.Call (.Name nm p) [ea, eb] [] pos) := by
  subst hn
  have key : PE X (.Call (.Name (b2N q) p) [ea, eb] [] pos) (tCB (fun vs H Q => ∃ G x y pa pb r, vs = [x, y] ∧ RdE D G H pa x ∧ RdE D G H pb y ∧ b2 q pa pb = some r ∧ ∀ v H' G', Made D G H true r v H' G' → Q v H') (tCons (Rd D W ms M1 (fun σ => Dlv D ms σ dl1) (evE C a)) (tCons (Rd D W ms M2 (fun σ => Dlv D ms σ dl2) (evE C b)) tNil))) := by
    have pa := pa_cons ha (pa_cons hb pa_nil hst2) hst
    have cr := cr_b2 (X := X) (D := D) hc q
    have bt := b2_boot q
    have ne : b2N q ≠ ("__name__" : Str) := by cases q <;> decide +kernel
    have nd : (b2N q == ("__debug__" : Str)) = false := by cases q <;> decide +kernel
    cases q <;> exact pe_callB cr hg hm bt pa ne nd hst hb3
  refine PE.imp key fun σ H Q ⟨env, G, Fp, R, h⟩ => ?_
  refine PoA.next (s1 := ⟨env, H, G, Fp⟩) (del0 := fun σ => Dlv D ms σ dl1) h R Ext.refl memL fun x vx s1 R1 E1 E1' d1 h1' => ?_
  refine PoA.next (del0 := fun σ => Dlv D ms σ dl2) h1' R1 E1' memR fun y vy s2 R2 E2 E2' d2 h2' => ?_
  obtain ⟨r, hr, k⟩ := PoA.of h2'
  exact ⟨s2.G, vx, vy, x, y, r, rfl, d1.held h1 E2 R2, d2.here h2 R2, hr, fun v H' G' m => fin_made (f := true) R2 E2' m k⟩
def hasKindB (x : PV) : Bool := hasKind x
theorem s_isi (e : D.K = X.K) {t : Ty} {nm : Str} (hn : tyN t = nm) {p p2 : Pos} (hg : Gl X "isinstance") (hm : X.mg "isinstance" = none) (hg2 : Gl X nm) (hm2 : X.mg nm = none) (ha : SE D X C W ms M dl a ea) (h1 : opOk dl [] = true)
    (hst : starEach [ea, .Name nm p2] X.env = (false, eval ea X.env) :: starEach [.Name nm p2] X.env) : SE D X C W ms M .sh (.isi a t) (.Call (.Name "isinstance" p) [ea, .Name nm p2] [] pos) := by
  subst hn
  have ne : tyN t ≠ ("__name__" : Str) := by cases t <;> decide +kernel
  have nd : (tyN t == ("__debug__" : Str)) = false := by cases t <;> decide +kernel
  have pt : PE X (.Name (tyN t) p2) (tC (.ty (tyS t))) := pe_bltn hg2 hm2 (ty_boot t) rfl ne nd
  refine PE.imp (pe_callB (cr_isi e t) hg hm (by decide +kernel) (pa_cons ha (pa_cons pt pa_nil rfl) hst) (by decide +kernel) (by decide +kernel) hst rfl) fun σ H Q ⟨env, G, Fp, R, h⟩ => ?_
  refine PoA.next (s1 := ⟨env, H, G, Fp⟩) (del0 := fun σ => Dlv D ms σ dl) h R Ext.refl (fun _ h => h) fun x vx s1 R1 E1 E1' d1 h1' => ?_
  by_cases hk : hasKind x = true
  · rw [if_pos hk] at h1'
    exact ⟨vx, x, rfl, (d1.here h1 R1).rep R1.sub, hk, h1' _ _ _ _ R1 E1' rfl⟩
  · rw [if_neg hk] at h1'
    exact h1'.elim
theorem s_m1 (e : D.K = X.K) (hu : X.A.units + 65 < cLine) {m : Ev.M1} {nm : Str} (hn : m1N m = nm) {apos : Pos} (ha : SE D X C W ms M1 dl1 a ea) (hb : SE D X C W ms M2 dl2 b eb) (h1 : opOk dl1 M2 = true) (h2 : opOk dl2 [] = true)
    (ha1 : attributeBase ea nm X.env (eval ea X.env) = eval ea X.env) (hl : (apos.endLine == pos.line) = true) (hst : starEach [eb] X.env = (false, eval eb X.env) :: starEach [] X.env)
    (hk : (((((backTo pos (starEach [eb] X.env)).all fun x => !x.fst) && (backToKw pos (keywordEach [] X.env)).all fun x => x.fst.isSome) && decide ((([eb] : List Expr).length + ([] : List Keyword).length + if ([] : List Keyword).isEmpty = true then 0 else 1) < 30)) = true)) (hm : m ≠ .tindex := by decide) : SE D X C W ms (M1 ++ M2) (.own 1) (.m1 m a b) (.Call (.Attribute ea nm apos) [eb] [] pos) := by
  subst hn
  have key : PE X (.Call (.Attribute ea (m1N m) apos) [eb] [] pos) (tBM X.K (m1T m) (fun x vs H Q => ∃ G y pa pb r, vs = [y] ∧ (∀ b o, G b = some o → H b = some o) ∧ RdE D G H pa x ∧ RdE D G H pb y ∧ m1 m pa pb = some r ∧ ∀ v H' G', Made D G H true r v H' G' → Q v H') (Rd D W ms M1 (fun σ => Dlv D ms σ dl1) (evE C a)) (tCons (Rd D W ms M2 (fun σ => Dlv D ms σ dl2) (evE C b)) tNil)) := by
    have mt := mt_m1 (X := X) e hu m
    have pa := pa_cons hb pa_nil hst
    cases m with
    | join => exact pe_bm PySem.F.plainAttrs_str PySem.F.slot_str_join PySem.F.type_str_join mt ha pa ha1 hk hl hst rfl
    | lindex => exact pe_bm PySem.F.plainAttrs_list PySem.F.slot_list_index PySem.F.type_list_index mt ha pa ha1 hk hl hst rfl
    | tindex => exact absurd rfl hm
    | sindex => exact pe_bm PySem.F.plainAttrs_str PySem.F.slot_str_index PySem.F.type_str_index mt ha pa ha1 hk hl hst rfl
    | split => exact pe_bm PySem.F.plainAttrs_str PySem.F.slot_str_split PySem.F.type_str_split mt ha pa ha1 hk hl hst rfl
    | scount => exact pe_bm PySem.F.plainAttrs_str PySem.F.slot_str_count PySem.F.type_str_count mt ha pa ha1 hk hl hst rfl
  refine PE.imp key fun σ H Q ⟨env, G, Fp, R, h⟩ => ?_
  refine PoA.next (s1 := ⟨env, H, G, Fp⟩) (del0 := fun σ => Dlv D ms σ dl1) h R Ext.refl memL fun x vx s1 R1 E1 E1' d1 h1' => ?_
  by_cases ht : m1Ty m x = true
  · rw [if_pos ht] at h1'
    refine ⟨?_, PoA.next (del0 := fun σ => Dlv D ms σ dl2) h1' R1 E1' memR fun y vy s2 R2 E2 E2' d2 h2' => ?_⟩
    · have dd := (d1.held h1 (s2 := s1) Ext.refl R1)
      have dr := dd.rep R1.sub
      cases m <;> cases x <;> simp [m1Ty] at ht
      · rw [show vx = _ from dr.2]; rfl
      · obtain ⟨p, vs, rfl, q, _⟩ := dr
        exact .inl ⟨rfl, vs, e ▸ q.sq⟩
      · exact absurd rfl hm
      · rw [show vx = _ from dr.2]; rfl
      · rw [show vx = _ from dr.2]; rfl
      · rw [show vx = _ from dr.2]; rfl
    · obtain ⟨r, hr, k⟩ := PoA.of h2'
      exact ⟨s2.G, vy, x, y, r, rfl, R2.sub, d1.held h1 E2 R2, d2.here h2 R2, hr, fun v H' G' m => fin_made (f := true) R2 E2' m k⟩
  · rw [if_neg ht] at h1'
    exact h1'.elim
/-- list(range(..)) -/
theorem rangeI_map : ∀ (n : Nat) (a : Int), rangeI a 1 n = (List.range n).map fun (k : Nat) => PV.int (a + k) := by
  intro n
  induction n with
  | zero => intro a; rfl
  | succ n ih =>
    intro a
    rw [List.range_succ_eq_map, List.map_cons, List.map_map, show rangeI a 1 (n + 1) = .int a :: rangeI (a + 1) 1 n from rfl, ih]
    congr 1
    · simp
    · apply List.map_congr_left
      intro k _
      simp only [Function.comp]
      congr 1
      omega
end
end Ev

/-! Ev8: what a for walks; targets; comprehensions. -/
namespace Ev
open PySem PySem.Spec PyProof.Rows L2
/-! ### unpacking of lists -/
section
variable {prog : Program} {w : World} {A : Around} {E : Value → Shared → Prop} {s : Shared}
theorem draw_list {it t : Addr} {items : Array Value} (hne : t ≠ it) : ∀ (n i : Nat) (s : Shared) (Q : List Value → Shared → Prop), s.heap.IsListIter it t i → s.heap.IsList t items → i + n ≤ items.size →
    (∀ h', h'.IsListIter it t (i + n) → Heap.SameBut it s.heap h' → Q ((items.toList.drop i).take n) { s with heap := h' }) → wpAny (model prog w) A (draw (.ref it) n) Q E s
  | 0, i, s, Q, hit, _, _, hQ => by
    show wpAny _ _ (pure []) Q E s
    exact wpAny_pure (by simpa using hQ s.heap hit (Heap.SameBut.refl ..))
  | n + 1, i, s, Q, hit, ht, hle, hQ => by
    have hlt : i < items.size := by omega
    show wpAny _ _ (pyNext (.ref it) >>= _) Q E s
    refine wpAny_bind (wpAny_pyNext_list_item hit ht (x := items[i]) (by simp [hlt]) fun h₁ hit₁ hs₁ => ?_)
    refine wpAny_bind (wpAny_holding (draw_list hne n (i + 1) _ _ hit₁ (ht.extBut hs₁.extBut hne) (by omega) fun h₂ hit₂ hs₂ => wpAny_pure ?_))
    have hd : items.toList.drop i = items[i] :: items.toList.drop (i + 1) := by simp [List.drop_eq_getElem_cons, hlt]
    have := hQ h₂ (by rw [show i + (n + 1) = i + 1 + n by omega]; exact hit₂) (hs₁.trans hs₂)
    rw [hd, List.take_succ_cons] at this
    exact this
theorem unpackItems_list {t : Addr} {items : Array Value} {Q : List Value → Shared → Prop} (hh : A.handled = none) (ht : s.heap.IsList t items)
    (hQ : ∀ h', Heap.ExtBut s.heap.objs.size s.heap h' → Q items.toList { s with heap := h' }) : wpAny (model prog w) A (unpackItems (.ref t) items.size none) Q E s := by
  have hlt : t ≠ s.heap.objs.size := by obtain ⟨o, ho, _⟩ := ht; exact Nat.ne_of_lt (Heap.lt_size ho)
  unfold unpackItems
  refine wpAny_bind ?_
  · unfold notIterableAtAll
    refine wpAny_bind (wpAny_specialOf ht.typeIs slot_list_iter.lookup ?_)
    refine wpAny_pure ?_
    simp only [Bool.false_eq_true, if_false]
    refine wpAny_bind (wpAny_holding (wpAny_pyIter_list ht ?_))
    refine wpAny_bind (wpAny_holding (draw_list hlt items.size 0 _ _ ⟨_, Heap.get?_push_size _ rfl, rfl, rfl⟩ (ht.push _) (by omega) fun h₁ hit₁ hs₁ => ?_))
    have hall : List.take items.size (List.drop 0 items.toList) = items.toList := by
      rw [List.drop_zero]; exact List.take_of_length_le (by simp)
    rw [hall]
    rw [if_neg (by simp)]
    have ht₁ : h₁.IsList t items := (ht.push _).extBut hs₁.extBut hlt
    refine wpAny_bind (wpAny_holding (wpAny_pyNext_list_end hh hit₁ ht₁ (by simp) fun h₂ he₂ => ?_))
    simp only [Option.isSome_none, Bool.false_eq_true, if_false]
    refine wpAny_pure (hQ h₂ fun b o hb e => he₂ b o hb (hs₁.extBut b o hb (Heap.get?_push_of_some _ e)))
theorem assign_Tuple_list {env : PySem.Env} {elts : List Expr} {x1} {pos : Pos} {t : Addr} {items : Array Value} {Q : Unit → Shared → Prop} (hh : A.handled = none) (ht : s.heap.IsList t items)
    (hn : (assignEach elts env).length = items.size) (hstar : (assignEach elts env).findIdx? (·.1) = none)
    (h : ∀ h', Heap.ExtBut s.heap.objs.size s.heap h' → wpAny (model prog w) A (assignInOrder ((assignEach elts env).map (·.2)) items.toList) Q E { s with heap := h' }) :
    wpAny (model prog w) A (assign (.Tuple elts x1 pos) env (.ref t)) Q E s := by
  rw [assign_Tuple]
  refine wpAny_bind (wpAny_standAt ?_)
  unfold unpack
  rw [hn, hstar]
  exact wpAny_bind (wpAny_holding (unpackItems_list hh ht h))
end
/-- (a, b, ..) = a tuple or a list of that length -/
def gTupE (K : PySem.W.Frag) (n : Nat) (t : TGs) : L2.TG := fun v σ H Q => ∃ a xs, v = .ref a ∧ (SqT K H a xs ∨ SqL K H a xs) ∧ xs.length = n ∧ t xs σ H Q
theorem pg_tupE {X : Cx} {pos : Pos} {es : List Expr} {k : Nat} {t : TGs} {n : Nat} (hc : X.calm = true) (h : PGs X es t)
    (hn : (assignEach es X.env).length = n := by rfl) (hst : (assignEach es X.env).findIdx? (·.1) = none := by rfl) : PG X (.Tuple es k pos) (gTupE X.K n t) := by
  refine ⟨fun pins s σ H v u Q I r hw => ?_⟩
  obtain ⟨a, xs, e1, hq, hl, hw⟩ := hw
  subst e1
  cases r
  rcases hq with hq | hq
  · obtain ⟨its, rv, ht, hz⟩ := I.tuple hq
    refine assign_Tuple_tuple (I.ok.hd hc) ht (by simp [hn, ← hl, rv.length]) hst fun h' hx => ?_
    have I1 : Inv X pins σ H { s with heap := h' } := I.kept (t' := s.toks) fun b o e => hx b o (Nat.ne_of_lt (Heap.lt_size e)) e
    exact h.run pins _ σ H xs _ Q I1 (by simpa using rv) hw
  · obtain ⟨its, rv, ht, hz⟩ := I.list hq
    refine assign_Tuple_list (I.ok.hd hc) ht.isList (by simp [hn, ← hl, rv.length]) hst fun h' hx => ?_
    have I1 : Inv X pins σ H { s with heap := h' } := I.kept (t' := s.toks) fun b o e => hx b o (Nat.ne_of_lt (Heap.lt_size e)) e
    exact h.run pins _ σ H xs _ Q I1 (by simpa using rv) hw
/-- J walks over xs, for ever -/
def ItOk (D : Dm) (G : Hp) (xs : List PV) (J : It) : Prop := ∀ H i, (∀ b o, G b = some o → H b = some o) →
  (i < xs.length → J.go i H) ∧ (xs.length ≤ i → J.stop i H) ∧ ∀ x H', J.yld i H x H' → i < xs.length → H' = H ∧ ∃ p, xs[i]? = some p ∧ RepV D G p x
section
variable (D : Dm) (X : Cx) (C : Calls) (W : WX) (ms : List Nat)
def SI (M : List Nat) (c : CI) (tg e : Expr) : Prop := PI X tg e (Rd D W ms M (fun _ xs J _ s => ItOk D s.G xs J) (evI C c))
def SC (M : List Nat) (c : Option CE) (es : List Expr) : Prop := PTs X es (Rd D W ms M (fun _ (a b : Bool) _ _ => a = b) (evC C c))
end
section
variable {D : Dm} {X : Cx} {C : Calls} {W : WX} {ms : List Nat} {M M1 M2 M3 : List Nat} {σ : L2.St} {α β γ δ : Type} {s0 s1 s2 : Sta} {x y : PV} {v u : V} {dl dl1 dl2 dl3 : Dl} {a b c : CE} {ea eb ec tg : Expr} {pos p1 p2 : Pos}
theorem PI.imp {t t' : TI} (p : PI X tg ea t) (f : ∀ σ H Q, t' σ H Q → t σ H Q) : PI X tg ea t' := ⟨fun pins s σ H Q I h => p.run pins s σ H Q I (f σ H Q h)⟩
theorem PTs.imp {es : List Expr} {t t' : TT} (p : PTs X es t) (f : ∀ σ H Q, t' σ H Q → t σ H Q) : PTs X es t' := ⟨fun pins s σ H Q I h => p.run pins s σ H Q I (f σ H Q h)⟩
theorem sc_nil : SC D X C W ms [] none [] := PTs.imp pts_nil fun σ H Q ⟨env, G, Fp, R, h⟩ => h true H G Fp R Ext.refl rfl
theorem sc_one (h : ST D X C W ms M a ea) : SC D X C W ms M (some a) [ea] := pts_one h
theorem itOk_lst (e : D.K = X.K) {G : Hp} {xs : List PV} {a : Addr} {vs : List V} (q : LsA D.K G a vs) (r : RepVs D G xs vs) : ItOk D G xs (Itl X.K a) := fun H i s => by
  have q' : SqL X.K H a vs := e ▸ (sqL_mono s q).sq
  refine ⟨fun hi => ?_, fun hi => ⟨vs, q', r.length ▸ hi⟩, fun x H' hy hi => ?_⟩
  · have : i < vs.length := r.length ▸ hi
    exact ⟨vs, vs[i], q', List.getElem?_eq_getElem this⟩
  · obtain ⟨p, h1, h2⟩ := RepVs.get' r (hy.2 vs q')
    exact ⟨hy.1, p, h1, h2⟩
theorem itOk_tup (e : D.K = X.K) {G : Hp} {xs : List PV} {a : Addr} {vs : List V} (q : SqC D G a vs) (r : RepVs D G xs vs) : ItOk D G xs (Itt X.K a) := fun H i s => by
  have q' : SqT X.K H a vs := e ▸ sqT_mono s q.sq
  refine ⟨fun hi => ?_, fun hi => ⟨vs, q', r.length ▸ hi⟩, fun x H' hy hi => ?_⟩
  · have : i < vs.length := r.length ▸ hi
    exact ⟨vs, vs[i], q', List.getElem?_eq_getElem this⟩
  · obtain ⟨p, h1, h2⟩ := RepVs.get' r (hy.2 vs q')
    exact ⟨hy.1, p, h1, h2⟩
theorem itOk_str {G : Hp} {z : List Nat} (ok : okS z) : ItOk D G (z.map fun c => .str [c]) (Its (S z)) := fun H i s => by
  refine ⟨fun hi => by simpa [Its, S] using hi, fun hi => by simpa [Its, S] using hi, fun x H' hy hi => ?_⟩
  obtain ⟨h1, c, h2, rfl⟩ := hy
  have h2 : z[i]? = some c := by simpa [S] using h2
  refine ⟨h1, .str [c], by simp [h2], ⟨by simp, ?_⟩, rfl⟩
  intro d hd
  simp at hd
  subst hd
  exact ok.2 _ (List.mem_of_getElem? h2)
theorem si_l (e : D.K = X.K) (ha : SE D X C W ms M .sh a ea) : SI D X C W ms M (.of 0 a) tg ea := by
  refine PI.imp (pi_list ha) fun σ H Q ⟨env, G, Fp, R, h⟩ => ?_
  refine PoA.next (s1 := ⟨env, H, G, Fp⟩) (del0 := fun σ => Dlv D ms σ .sh) h R Ext.refl (fun _ h => h) fun x vx s1 R1 E1 E1' d1 h1' => ?_
  obtain ⟨r, hr, k⟩ := PoA.of h1'
  cases x <;> simp [PV.items] at hr
  subst hr
  obtain ⟨p, vs, rfl, q, rs⟩ := d1
  exact ⟨p, rfl, ⟨vs, e ▸ (sqL_mono R1.sub q).sq⟩, k _ _ _ _ R1 E1' (itOk_lst e q rs)⟩
/-- a list that is only walked (the script) -/
theorem si_o (e : D.K = X.K) (ha : SE D X C W ms M .sh a ea) : SI D X C W ms M (.of 3 a) tg ea := by
  refine PI.imp (pi_list ha) fun σ H Q ⟨env, G, Fp, R, h⟩ => ?_
  refine PoA.next (s1 := ⟨env, H, G, Fp⟩) (del0 := fun σ => Dlv D ms σ .sh) h R Ext.refl (fun _ h => h) fun x vx s1 R1 E1 E1' d1 h1' => ?_
  obtain ⟨r, hr, k⟩ := PoA.of h1'
  cases x <;> simp [PV.items] at hr
  subst hr
  obtain ⟨p, vs, rfl, q, rs⟩ := d1
  refine ⟨p, rfl, ⟨vs, e ▸ sq0_mono R1.sub q⟩, k _ _ _ _ R1 E1' fun H i s => ?_⟩
  have q' : SqL X.K H p vs := e ▸ sq0_mono s q
  refine ⟨fun hi => ?_, fun hi => ⟨vs, q', rs.length ▸ hi⟩, fun x H' hy hi => ?_⟩
  · have : i < vs.length := rs.length ▸ hi
    exact ⟨vs, vs[i], q', List.getElem?_eq_getElem this⟩
  · obtain ⟨p, h1, h2⟩ := RepVs.get' rs (hy.2 vs q')
    exact ⟨hy.1, p, h1, h2⟩
theorem si_t (e : D.K = X.K) (ha : SE D X C W ms M .sh a ea) : SI D X C W ms M (.of 1 a) tg ea := by
  refine PI.imp (pi_tup ha) fun σ H Q ⟨env, G, Fp, R, h⟩ => ?_
  refine PoA.next (s1 := ⟨env, H, G, Fp⟩) (del0 := fun σ => Dlv D ms σ .sh) h R Ext.refl (fun _ h => h) fun x vx s1 R1 E1 E1' d1 h1' => ?_
  obtain ⟨r, hr, k⟩ := PoA.of h1'
  cases x <;> simp [PV.items] at hr
  subst hr
  obtain ⟨p, vs, rfl, q, rs⟩ := d1
  exact ⟨p, rfl, ⟨vs, e ▸ sqT_mono R1.sub q.sq⟩, k _ _ _ _ R1 E1' (itOk_tup e q rs)⟩
theorem si_s (ha : SE D X C W ms M dl a ea) (h1 : opOk dl [] = true) : SI D X C W ms M (.of 2 a) tg ea := by
  refine PI.imp (pi_str ha) fun σ H Q ⟨env, G, Fp, R, h⟩ => ?_
  refine PoA.next (s1 := ⟨env, H, G, Fp⟩) (del0 := fun σ => Dlv D ms σ dl) h R Ext.refl (fun _ h => h) fun x vx s1 R1 E1 E1' d1 h1' => ?_
  obtain ⟨r, hr, k⟩ := PoA.of h1'
  cases x <;> simp [PV.items] at hr
  subst hr
  obtain ⟨ok, rfl⟩ := (d1.here h1 R1).str
  exact ⟨_, rfl, k _ _ _ _ R1 E1' (itOk_str ok)⟩
theorem rangeI_get : ∀ (n i : Nat) (a s : Int), i < n → (rangeI a s n)[i]? = some (.int (a + i * s))
  | 0, i, a, s, h => by omega
  | n + 1, 0, a, s, h => by simp [rangeI]
  | n + 1, i + 1, a, s, h => by
    rw [rangeI, List.getElem?_cons_succ, rangeI_get n i (a + s) s (by omega)]
    congr 2
    rw [Int.natCast_succ, Int.add_mul]
    omega
theorem rangeI_len : ∀ (n : Nat) (a s : Int), (rangeI a s n).length = n
  | 0, a, s => rfl
  | n + 1, a, s => by simp [rangeI, rangeI_len n]
theorem itOk_rng {G : Hp} (a : Int) (n : Nat) : ItOk D G (rangeI a 1 n) (Itr a n) := fun H i s => by
  rw [rangeI_len]
  refine ⟨fun hi => hi, fun hi => hi, fun x H' hy hi => ⟨hy.1, _, rangeI_get n i a 1 hi, ?_⟩⟩
  rw [hy.2, Int.mul_one]
  rfl
theorem itOk_rngC {G : Hp} (a c : Int) (n : Nat) : ItOk D G (rangeI a c n) (Itc a c n) := fun H i s => by
  rw [rangeI_len]
  refine ⟨fun hi => hi, fun hi => hi, fun x H' hy hi => ⟨hy.1, _, rangeI_get n i a c hi, ?_⟩⟩
  rw [hy.2]
  rfl
theorem si_r1 {nm : Str} (hn : nm = "range") (hg : Gl X nm) (hm : X.mg nm = none) (ha : SE D X C W ms M dl a ea) (h1 : opOk dl [] = true) (hst : starEach [ea] X.env = [(false, eval ea X.env)]) : SI D X C W ms M (.r1 a) tg (.Call (.Name nm p1) [ea] [] pos) := by
  subst hn
  refine PI.imp (pi_range1 hg hm (pa_cons ha pa_nil hst) hst) fun σ H Q ⟨env, G, Fp, R, h⟩ => ?_
  refine PoA.next (s1 := ⟨env, H, G, Fp⟩) (del0 := fun σ => Dlv D ms σ dl) h R Ext.refl (fun _ h => h) fun x vx s1 R1 E1 E1' d1 h1' => ?_
  cases x <;> first | exact h1'.elim | skip
  rename_i n
  have := (d1.here h1 R1).int
  subst this
  by_cases hr : inR n
  · dsimp only at h1'
    rw [if_pos hr] at h1'
    exact ⟨n, rfl, by have := hr.1; omega, by have := hr.2; omega, h1' _ _ _ _ R1 E1' (itOk_rng 0 n.toNat)⟩
  · dsimp only at h1'
    rw [if_neg hr] at h1'
    exact h1'.elim
theorem si_r2 {nm : Str} (hn : nm = "range") (hg : Gl X nm) (hm : X.mg nm = none) (ha : SE D X C W ms M1 dl1 a ea) (hb : SE D X C W ms M2 dl2 b eb) (h1 : opOk dl1 M2 = true) (h2 : opOk dl2 [] = true)
    (hst : starEach [ea, eb] X.env = [(false, eval ea X.env), (false, eval eb X.env)]) (hst2 : starEach [eb] X.env = [(false, eval eb X.env)]) : SI D X C W ms (M1 ++ M2) (.r2 a b) tg (.Call (.Name nm p1) [ea, eb] [] pos) := by
  subst hn
  refine PI.imp (pi_range2 hg hm (pa_cons ha (pa_cons hb pa_nil hst2) (hst.trans (by rw [hst2]))) hst hst2) fun σ H Q ⟨env, G, Fp, R, h⟩ => ?_
  refine PoA.next (s1 := ⟨env, H, G, Fp⟩) (del0 := fun σ => Dlv D ms σ dl1) h R Ext.refl memL fun x vx s1 R1 E1 E1' d1 h1' => ?_
  refine PoA.next (del0 := fun σ => Dlv D ms σ dl2) h1' R1 E1' memR fun y vy s2 R2 E2 E2' d2 h2' => ?_
  cases x <;> first | exact h2'.elim | skip
  cases y <;> first | exact h2'.elim | skip
  rename_i i j
  have := (d1.held h1 E2 R2).int
  subst this
  have := (d2.here h2 R2).int
  subst this
  by_cases hr : inR i ∧ inR j
  · dsimp only at h2'
    rw [if_pos hr] at h2'
    obtain ⟨⟨q1, q2⟩, q3, q4⟩ := hr
    exact ⟨i, j, rfl, ⟨by omega, by omega, by omega, by omega⟩, h2' _ _ _ _ R2 E2' (itOk_rng i (j - i).toNat)⟩
  · dsimp only at h2'
    rw [if_neg hr] at h2'
    exact h2'.elim

/-! ### targets -/
def RdG (D : Dm) (ms : List Nat) (t : Ev.TG) : L2.TG := fun v σ H Q => ∃ x env G Fp env', RelS D ms σ ⟨env, H, G, Fp⟩ ∧ RepV D G x v ∧ setTG t x env = some env' ∧
  ∀ σ', RelS D ms σ' ⟨env', H, G, Fp⟩ → (∀ j, j ∉ tgs t → σ'[j]? = σ[j]? ∧ getV env' j = getV env j) → Q σ' H
def SG (D : Dm) (X : Cx) (ms : List Nat) (t : Ev.TG) (e : Expr) : Prop := PG X e (RdG D ms t)
theorem PG.imp {t t' : L2.TG} (p : PG X ea t) (f : ∀ v σ H Q, t' v σ H Q → t v σ H Q) : PG X ea t' := ⟨fun pins s σ H v u Q I r h => p.run pins s σ H v u Q I r (f v σ H Q h)⟩
theorem Rel.empty {env : Env} {H G : Hp} {Fp : Fps} {m : Nat → Nat} (R : Rel D m env σ H G Fp) {i : Nat} (h : m i = 0) : Fp i = [] := by
  cases q : getV env i with
  | none => exact R.no i q
  | some x =>
    obtain ⟨v, _, o⟩ := R.at_ i x q
    rw [h] at o
    exact (OwnR.zero.mp o).1
theorem Rel.setSh {env : Env} {H G : Hp} {Fp : Fps} {m : Nat → Nat} (R : Rel D m env σ H G Fp) {i : Nat} (h : m i = 0) (r : RepV D G x v) : Rel D m (env.set i (some x)) (σ.set i (some v)) H G Fp where
  at_ := fun j y q => by
    rw [getV_set] at q
    by_cases hj : i = j ∧ i < env.length
    · rw [if_pos hj] at q
      cases q
      obtain ⟨rfl, hl⟩ := hj
      refine ⟨v, by rw [List.getElem?_set_self (by rw [← R.len]; exact hl)], ?_⟩
      rw [h]
      exact OwnR.zero.mpr ⟨R.empty h, r⟩
    · rw [if_neg hj] at q
      obtain ⟨w, e1, o⟩ := R.at_ j y q
      have hl := getV_lt q
      have : i ≠ j := fun z => hj ⟨z, z ▸ hl⟩
      exact ⟨w, by rw [List.getElem?_set_ne this]; exact e1, o⟩
  no := fun j q => by
    rw [getV_set] at q
    by_cases hj : i = j ∧ i < env.length
    · rw [if_pos hj] at q; cases q
    · rw [if_neg hj] at q
      exact R.no j q
  sub := R.sub
  dis := R.dis
  nd := R.nd
  sep := R.sep
  len := by simpa using R.len
theorem sg_nm {i : Nat} {x : Str} (hnd : X.N.Nodup) (hN : X.N[i]? = some x) (hl : Loc X.env.scope x) (h2 : X.fn x = true ∨ X.env.scope.names.lookup x = some .local) (h0 : gm ms i = 0) : SG D X ms (.nm i) (.Name x pos) := by
  refine PG.imp (pg_name hnd hN hl h2) fun v σ H Q ⟨x, env, G, Fp, env', R, r, hs, k⟩ => ?_
  cases hs
  refine k _ (R.setSh h0 r) fun j hj => ?_
  have : i ≠ j := fun z => hj (by simp [tgs, z])
  exact ⟨List.getElem?_set_ne this, by rw [getV_set, if_neg fun z => this z.1]⟩
/-- names, one behind the other -/
def SGs (D : Dm) (X : Cx) (ms : List Nat) (is : List Nat) (es : List Expr) : Prop := PGs X es fun vs σ H Q => ∃ xs env G Fp env', RelS D ms σ ⟨env, H, G, Fp⟩ ∧ RepVs D G xs vs ∧ setMany is xs env = some env' ∧
  ∀ σ', RelS D ms σ' ⟨env', H, G, Fp⟩ → (∀ j, j ∉ is → σ'[j]? = σ[j]? ∧ getV env' j = getV env j) → Q σ' H
theorem PGs.imp {es : List Expr} {t t' : TGs} (p : PGs X es t) (f : ∀ v σ H Q, t' v σ H Q → t v σ H Q) : PGs X es t' := ⟨fun pins s σ H v u Q I r h => p.run pins s σ H v u Q I r (f v σ H Q h)⟩
theorem sgs_nil : SGs D X ms [] [] := by
  refine PGs.imp pgs_nil fun vs σ H Q ⟨xs, env, G, Fp, env', R, r, hs, k⟩ => ?_
  cases xs with
  | nil =>
    cases hs
    exact ⟨r, k σ R fun _ _ => ⟨rfl, rfl⟩⟩
  | cons x xs => cases hs
theorem sgs_cons {i : Nat} {is : List Nat} {x : Str} {es : List Expr} (hnd : X.N.Nodup) (hN : X.N[i]? = some x) (hl : Loc X.env.scope x) (h2 : X.fn x = true ∨ X.env.scope.names.lookup x = some .local) (h0 : gm ms i = 0) (hs : SGs D X ms is es)
    (he : List.map (fun x => Prod.snd x) (assignEach (.Name x pos :: es) X.env) = assign (.Name x pos) X.env :: List.map (fun x => Prod.snd x) (assignEach es X.env)) : SGs D X ms (i :: is) (.Name x pos :: es) := by
  refine PGs.imp (pgs_cons (pg_name hnd hN hl h2) hs he) fun vs σ H Q ⟨xs, env, G, Fp, env', R, r, hs, k⟩ => ?_
  cases xs with
  | nil => cases hs
  | cons x xs =>
    obtain ⟨v, vs', rfl, r1, r2⟩ := r
    refine ⟨v, vs', rfl, xs, env.set i (some x), G, Fp, env', R.setSh h0 r1, r2, hs, fun σ' R' h => k σ' R' fun j hj => ?_⟩
    have hj : i ≠ j ∧ j ∉ is := ⟨fun z => hj (by simp [z]), fun z => hj (by simp [z])⟩
    obtain ⟨e1, e2⟩ := h j hj.2
    exact ⟨e1.trans (List.getElem?_set_ne hj.1), e2.trans (by rw [getV_set, if_neg fun z => hj.1 z.1])⟩
theorem setMany_len : ∀ {is : List Nat} {xs : List PV} {env env' : Env}, setMany is xs env = some env' → xs.length = is.length
  | [], [], _, _, _ => rfl
  | [], _ :: _, _, _, h => by cases h
  | _ :: _, [], _, _, h => by cases h
  | i :: is, x :: xs, env, env', h => by
    have h : setMany is xs (env.set i (some x)) = some env' := h
    simp [setMany_len h]
theorem sg_tp (e : D.K = X.K) (hc : X.calm = true) {is : List Nat} {es : List Expr} {n : Nat} (hs : SGs D X ms is es) (h1 : (assignEach es X.env).length = is.length) (h2 : List.findIdx? (fun x => x.fst) (assignEach es X.env) = none) : SG D X ms (.tp is) (.Tuple es n pos) := by
  refine PG.imp (pg_tupE hc hs h1 h2) fun v σ H Q ⟨x, env, G, Fp, env', R, r, hs, k⟩ => ?_
  cases x with
  | tup xs =>
    obtain ⟨a, vs, rfl, q, rs⟩ := r
    have hs : setMany is xs env = some env' := hs
    exact ⟨a, vs, rfl, .inl (e ▸ sqT_mono R.sub q.sq), by rw [← rs.length, setMany_len hs], xs, env, G, Fp, env', R, rs, hs, k⟩
  | lst xs =>
    obtain ⟨a, vs, rfl, q, rs⟩ := r
    have hs : setMany is xs env = some env' := hs
    exact ⟨a, vs, rfl, .inr (e ▸ (sqL_mono R.sub q).sq), by rw [← rs.length, setMany_len hs], xs, env, G, Fp, env', R, rs, hs, k⟩
  | _ => cases hs

/-! ### comprehensions -/
theorem wipe_len : ∀ (vs : List Nat) (σ : L2.St), (wipe σ vs).length = σ.length
  | [], σ => rfl
  | i :: vs, σ => by simp [wipe, wipe_len vs]
theorem wipe_get : ∀ (vs : List Nat) (σ : L2.St) (j : Nat), j ∉ vs → (wipe σ vs)[j]? = σ[j]?
  | [], σ, j, _ => rfl
  | i :: vs, σ, j, h => by
    have h : j ≠ i ∧ j ∉ vs := ⟨fun z => h (by simp [z]), fun z => h (by simp [z])⟩
    simp only [wipe]
    first
      | rw [List.getElem?_set_ne (fun z => h.1 z.symm), wipe_get vs σ j h.2]
      | rw [wipe_get vs _ j h.2, List.getElem?_set_ne (fun z => h.1 z.symm)]
theorem wipe_in : ∀ (vs : List Nat) (σ : L2.St) (j : Nat), j ∈ vs → j < σ.length → (wipe σ vs)[j]? = some none
  | [], σ, j, h, _ => by cases h
  | i :: vs, σ, j, h, hl => by
    simp only [wipe]
    by_cases z : i = j
    · subst z
      first
        | rw [List.getElem?_set_self (by rw [wipe_len]; exact hl)]
        | (by_cases hv : i ∈ vs
           · rw [wipe_in vs _ i hv (by simpa using hl)]
           · rw [wipe_get vs _ i hv, List.getElem?_set_self hl])
    · have hv : j ∈ vs := by
        rcases List.mem_cons.mp h with q | q
        · exact absurd q.symm z
        · exact q
      first
        | rw [List.getElem?_set_ne z, wipe_in vs σ j hv hl]
        | rw [wipe_in vs _ j hv (by simpa using hl)]
theorem wipe_same {vs : List Nat} {σ σ' : L2.St} (hl : σ'.length = σ.length) (h : ∀ j, j ∉ vs → σ'[j]? = σ[j]?) : wipe σ' vs = wipe σ vs := by
  apply List.ext_getElem?
  intro j
  by_cases hj : j ∈ vs
  · by_cases hb : j < σ.length
    · rw [wipe_in vs σ' j hj (by omega), wipe_in vs σ j hj hb]
    · rw [List.getElem?_eq_none (by rw [wipe_len]; omega), List.getElem?_eq_none (by rw [wipe_len]; omega)]
  · rw [wipe_get vs σ' j hj, wipe_get vs σ j hj, h j hj]
theorem wipeE_len : ∀ (os : List Nat) (env : Env), (wipeE env os).length = env.length
  | [], _ => rfl
  | i :: os, env => by
    show ((wipeE env os).set i none).length = _
    rw [List.length_set, wipeE_len os]
theorem getV_wipeE : ∀ (os : List Nat) (env : Env) (j : Nat), getV (wipeE env os) j = if j ∈ os then none else getV env j
  | [], env, j => by rw [if_neg (by simp)]; rfl
  | i :: os, env, j => by
    rw [show wipeE env (i :: os) = (wipeE env os).set i none from rfl, getV_set, getV_wipeE os]
    by_cases h : i = j
    · subst h
      by_cases hl : i < (wipeE env os).length
      · rw [if_pos ⟨rfl, hl⟩, if_pos (List.mem_cons_self ..)]
      · rw [if_neg (fun q => hl q.2), if_pos (List.mem_cons_self ..)]
        rw [wipeE_len] at hl
        have : getV env i = none := by unfold getV; rw [List.getElem?_eq_none (by omega)]
        rw [this, ite_self]
    · rw [if_neg (fun q => h q.1)]
      have : (j ∈ i :: os) ↔ j ∈ os := by
        simp only [List.mem_cons, or_iff_right_iff_imp]
        intro q
        exact absurd q.symm h
      simp only [this]
theorem backE_len : ∀ (os : List Nat) (old env : Env), (backE old env os).length = env.length
  | [], _, _ => rfl
  | i :: os, old, env => by
    show ((backE old env os).set i _).length = _
    rw [List.length_set, backE_len os]
theorem getV_backE : ∀ (os : List Nat) (old env : Env) (j : Nat), old.length = env.length → getV (backE old env os) j = if j ∈ os then getV old j else getV env j
  | [], old, env, j, _ => by simp [backE]
  | i :: os, old, env, j, hl => by
    rw [show backE old env (i :: os) = (backE old env os).set i _ from rfl, getV_set, getV_backE os old env j hl]
    by_cases h : i = j
    · subst h
      rw [if_pos (show i ∈ i :: os by simp)]
      by_cases hb : i < (backE old env os).length
      · rw [if_pos ⟨rfl, hb⟩]
        unfold getV
        cases q : old[i]? with
        | none => rfl
        | some o => cases o <;> rfl
      · rw [if_neg (fun q => hb q.2)]
        rw [backE_len] at hb
        have e1 : getV old i = none := by unfold getV; rw [List.getElem?_eq_none (by omega)]
        have e2 : getV env i = none := by unfold getV; rw [List.getElem?_eq_none (by omega)]
        rw [e1, e2]
        simp
    · rw [if_neg (fun q => h q.1)]
      have : (j ∈ i :: os) ↔ j ∈ os := by
        simp only [List.mem_cons, or_iff_right_iff_imp]
        intro q
        exact absurd q.symm h
      simp only [this]
theorem Rel.wiped {env : Env} {H G : Hp} {Fp : Fps} {m : Nat → Nat} {os : List Nat} (R : Rel D m env σ H G Fp) (h0 : ∀ i, i ∈ os → m i = 0) : Rel D m (wipeE env os) (wipe σ os) H G Fp where
  at_ := fun j y q => by
    rw [getV_wipeE] at q
    by_cases hj : j ∈ os
    · rw [if_pos hj] at q; cases q
    · rw [if_neg hj] at q
      rw [wipe_get os σ j hj]
      exact R.at_ j y q
  no := fun j q => by
    rw [getV_wipeE] at q
    by_cases hj : j ∈ os
    · exact R.empty (h0 j hj)
    · rw [if_neg hj] at q
      exact R.no j q
  sub := R.sub
  dis := R.dis
  nd := R.nd
  sep := R.sep
  len := by rw [wipeE_len, wipe_len]; exact R.len
theorem Rel.other {env : Env} {H G : Hp} {Fp : Fps} {m : Nat → Nat} (R : Rel D m env σ H G Fp) {p : Addr} {o : HO} (hp : ∀ i, p ∉ Fp i) (hg : G p = none) : Rel D m env σ (upd H p o) G Fp where
  at_ := R.stay (fun _ _ e => e) fun i b u hb e => by rw [upd_ne (fun z : b = p => hp i (by rw [← z]; exact hb))]; exact e
  no := R.no
  sub := fun b u e => by
    have : b ≠ p := fun z => by rw [z, hg] at e; cases e
    rw [upd_ne this]; exact R.sub b u e
  dis := R.dis
  nd := R.nd
  sep := R.sep
  len := R.len
theorem Rd.of_ok {del : L2.St → α → β → Sta → Sta → Prop} {ev : Env → R α} {Q : β → Hp → Prop} {s : Sta} {p : α} {e' : Env} (R : RelS D ms σ s) (he : ev s.env = .ok p e')
    (k : ∀ b H G Fp, RelS D ms σ ⟨e', H, G, Fp⟩ → ExtS M s ⟨e', H, G, Fp⟩ → del σ p b s ⟨e', H, G, Fp⟩ → Q b H) : Rd D W ms M del ev σ s.H Q :=
  ⟨s.env, s.G, s.Fp, R, by unfold PoA; rw [he]; exact k⟩
/-- the state within a comprehension, turn by turn -/
structure CpI (D : Dm) (ms : List Nat) (M os : List Nat) (σ : L2.St) (s1 : Sta) (p : Addr) (acc : List PV) (ei : Env) (H : Hp) : Prop where
  ex : ∃ G Fp vs, RelS D ms (wipe σ os) ⟨wipeE ei os, H, G, Fp⟩ ∧ H p = some (.lst vs) ∧ RepVs D G acc vs ∧ (∀ i, p ∉ Fp i) ∧ G p = none ∧
    (∀ b o, s1.H b = some o → (∀ i, b ∉ s1.Fp i) → H b = some o ∧ (∀ i, b ∉ Fp i) ∧ (s1.G b = none → G b = none)) ∧
    (∀ i b o, b ∈ s1.Fp i → i ∉ M → s1.H b = some o → H b = some o) ∧ (∀ b o, s1.G b = some o → G b = some o) ∧ (∀ i, i ∉ M → i ∉ os → Fp i = s1.Fp i ∧ getV ei i = getV s1.env i) ∧ (∀ i, i ∉ M → Fp i = s1.Fp i) ∧ ei.length = s1.env.length
theorem setMany_len2 : ∀ {is : List Nat} {xs : List PV} {env env' : Env}, setMany is xs env = some env' → env'.length = env.length
  | [], [], _, _, h => by cases h; rfl
  | [], _ :: _, _, _, h => by cases h
  | _ :: _, [], _, _, h => by cases h
  | i :: is, x :: xs, env, env', h => by
    have h : setMany is xs (env.set i (some x)) = some env' := h
    rw [setMany_len2 h, List.length_set]
theorem setTG_len {t : Ev.TG} {x : PV} {env env' : Env} (h : setTG t x env = some env') : env'.length = env.length := by
  cases t with
  | nm i =>
    cases h
    simp
  | tp is =>
    cases x <;> first | cases h | skip
    all_goals exact setMany_len2 h
theorem fin_list {f : PV → Env → Ev.R (Option PV)} {xs : List PV} {env : Env} {g : List PV → Env → Ev.R PV} {Q : V → Hp → Prop}
    (h : PoA D W ms σ M (Dlv D ms σ (.own 1)) s0 ((noX (compL f xs env)).bind g) Q) (hg : ∀ vs e, g vs e = if vs.length ≤ SZ then .ok (.lst vs) (backE env e M1) else .st) :
    ∃ vs e6, compL f xs env = .ok vs e6 ∧ vs.length ≤ SZ ∧ ∀ b H G Fp, RelS D ms σ ⟨backE env e6 M1, H, G, Fp⟩ → ExtS M s0 ⟨backE env e6 M1, H, G, Fp⟩ → Dlv D ms σ (.own 1) (.lst vs) b s0 ⟨backE env e6 M1, H, G, Fp⟩ → Q b H := by
  cases e : compL f xs env with
  | ok vs e6 =>
    rw [e] at h
    have h : PoA D W ms σ M (Dlv D ms σ (.own 1)) s0 (g vs e6) Q := h
    rw [hg] at h
    by_cases hl : vs.length ≤ SZ
    · rw [if_pos hl] at h
      exact ⟨vs, e6, rfl, hl, h⟩
    · rw [if_neg hl] at h
      exact h.elim
  | ex c e6 => rw [e] at h; exact h.elim
  | st => rw [e] at h; exact h.elim
theorem CpI.fin {os : List Nat} {p : Addr} {acc : List PV} {ei : Env} {H : Hp} (I : CpI D ms M os σ s1 p acc ei H) (R1 : RelS D ms σ s1) (E1 : ExtS M s0 s1) (h0 : ∀ i, i ∈ os → gm ms i = 0) (hp : s1.H p = none) {Q : V → Hp → Prop}
    (k : ∀ b H G Fp, RelS D ms σ ⟨backE s1.env ei os, H, G, Fp⟩ → ExtS M s0 ⟨backE s1.env ei os, H, G, Fp⟩ → Dlv D ms σ (.own 1) (.lst acc) b s0 ⟨backE s1.env ei os, H, G, Fp⟩ → Q b H) : Q (.ref p) H := by
  obtain ⟨G, Fp, vs, R, hv, rv, np, gp, far, own, mono, same, sameF, len⟩ := I.ex
  have E : ExtS M s1 ⟨backE s1.env ei os, H, G, Fp⟩ := by
    refine ⟨far, fun i b o hb hm e => own i b o hb hm e, mono, fun i hm => ⟨sameF i hm, ?_⟩⟩
    dsimp only
    rw [getV_backE os _ _ _ len.symm]
    by_cases hi : i ∈ os
    · rw [if_pos hi]
    · rw [if_neg hi]
      exact (same i hm hi).2
  refine k (.ref p) H G Fp ?_ (E1.trans E) ⟨[p], ⟨⟨p, vs, [], rfl, hv, rfl, OwnRs.ofG rv⟩, fun b hb => ?_, by simp⟩, fun b o e n hb => ?_⟩
  · refine ⟨fun j y q => ?_, fun j q => ?_, R.sub, R.dis, R.nd, R.sep, by rw [backE_len, len]; exact R1.len⟩
    · dsimp only at q
      rw [getV_backE os _ _ _ len.symm] at q
      by_cases hj : j ∈ os
      · rw [if_pos hj] at q
        obtain ⟨v, e1, o⟩ := R1.at_ j y q
        rw [h0 j hj] at o ⊢
        exact ⟨v, e1, OwnR.zero.mpr ⟨R.empty (h0 j hj), RepV.mono mono (OwnR.zero.mp o).2⟩⟩
      · rw [if_neg hj] at q
        have := R.at_ j y (by dsimp only; rw [getV_wipeE, if_neg hj]; exact q)
        rw [wipe_get os σ j hj] at this
        exact this
    · dsimp only at q
      rw [getV_backE os _ _ _ len.symm] at q
      by_cases hj : j ∈ os
      · exact R.empty (h0 j hj)
      · rw [if_neg hj] at q
        exact R.no j (by dsimp only; rw [getV_wipeE, if_neg hj]; exact q)
  · rw [List.mem_singleton] at hb
    subst hb
    exact ⟨gp, np⟩
  · rw [List.mem_singleton] at hb
    subst hb
    obtain ⟨e1, _, _⟩ := E1.far b o e n
    rw [hp] at e1
    cases e1
theorem CpI.start {os : List Nat} {p : Addr} (R1 : RelS D ms σ s1) (h0 : ∀ i, i ∈ os → gm ms i = 0) (hp : s1.H p = none) : CpI D ms M os σ s1 p [] s1.env (upd s1.H p (.lst [])) where
  ex := by
    have gp : s1.G p = none := by
      cases q : s1.G p with
      | none => rfl
      | some o => rw [R1.sub _ _ q] at hp; cases hp
    have np : ∀ i, p ∉ s1.Fp i := fun i hb => by
      obtain ⟨vs, e⟩ := R1.has hb
      rw [hp] at e; cases e
    have mh : ∀ b u, s1.H b = some u → upd s1.H p (.lst []) b = some u := fun b u e => by rw [upd_ne (ne_of_none e hp)]; exact e
    exact ⟨s1.G, s1.Fp, [], (Rel.wiped R1 h0).other np gp, upd_same, rfl, np, gp, fun b o e n => ⟨mh b o e, n, fun q => q⟩, fun i b o _ _ e => mh b o e, fun _ _ e => e, fun _ _ _ => ⟨rfl, rfl⟩, fun _ _ => rfl, rfl⟩
theorem CpI.turn {os Mb : List Nat} {p : Addr} {acc : List PV} {ei e3 e5 : Env} {H H4 G G4 : Hp} {Fp Fp4 : Fps} {vs : List V} {σ' : L2.St}
    (R : RelS D ms (wipe σ os) ⟨wipeE ei os, H, G, Fp⟩) (hv : H p = some (.lst vs)) (rv : RepVs D G acc vs) (np : ∀ i, p ∉ Fp i) (gp : G p = none)
    (far : ∀ b o, s1.H b = some o → (∀ i, b ∉ s1.Fp i) → H b = some o ∧ (∀ i, b ∉ Fp i) ∧ (s1.G b = none → G b = none))
    (own : ∀ i b o, b ∈ s1.Fp i → i ∉ M → s1.H b = some o → H b = some o) (mono : ∀ b o, s1.G b = some o → G b = some o) (same : ∀ i, i ∉ M → i ∉ os → Fp i = s1.Fp i ∧ getV ei i = getV s1.env i) (sameF : ∀ i, i ∉ M → Fp i = s1.Fp i) (len : ei.length = s1.env.length)
    (R' : RelS D ms σ' ⟨e5, H4, G4, Fp4⟩) (E : ExtS Mb ⟨e3, H, G, Fp⟩ ⟨e5, H4, G4, Fp4⟩) (hMb : ∀ i, i ∈ Mb → i ∈ M) (hw : wipe σ' os = wipe σ os) (h3 : ∀ j, j ∉ os → getV e3 j = getV (wipeE ei os) j) (h0 : ∀ i, i ∈ os → gm ms i = 0) (hs1 : s1.env.length = σ'.length) : CpI D ms M os σ s1 p acc e5 H4 where
  ex := by
    obtain ⟨hv4, np4, gp4⟩ := E.far p _ hv np
    have w := Rel.wiped R' h0
    rw [hw] at w
    refine ⟨G4, Fp4, vs, w, hv4, RepVs.mono E.mono rv, np4, gp4 gp, fun b o e n => ?_, fun i b o hb hm e => ?_, fun b o e => E.mono b o (mono b o e), fun i hm ho => ?_, fun i hm => ?_, ?_⟩
    · obtain ⟨a1, a2, a3⟩ := far b o e n
      obtain ⟨b1, b2, b3⟩ := E.far b o a1 a2
      exact ⟨b1, b2, fun q => b3 (a3 q)⟩
    · exact E.own i b o (by dsimp only; rw [sameF i hm]; exact hb) (fun z => hm (hMb i z)) (own i b o hb hm e)
    · obtain ⟨a1, a2⟩ := E.same i (fun z => hm (hMb i z))
      obtain ⟨b1, b2⟩ := same i hm ho
      refine ⟨a1.trans b1, a2.trans ((h3 i ho).trans ?_)⟩
      rw [getV_wipeE, if_neg ho]
      exact b2
    · exact (E.same i (fun z => hm (hMb i z))).1.trans (sameF i hm)
    · exact R'.len.trans hs1.symm
theorem CpI.turn2 {os Mb : List Nat} {p : Addr} {acc : List PV} {ei e3 e5 : Env} {H H4 G G4 : Hp} {Fp Fp4 : Fps} {vs : List V} {σ' : L2.St} {z : PV} {y : V}
    (R : RelS D ms (wipe σ os) ⟨wipeE ei os, H, G, Fp⟩) (hv : H p = some (.lst vs)) (rv : RepVs D G acc vs) (np : ∀ i, p ∉ Fp i) (gp : G p = none)
    (far : ∀ b o, s1.H b = some o → (∀ i, b ∉ s1.Fp i) → H b = some o ∧ (∀ i, b ∉ Fp i) ∧ (s1.G b = none → G b = none))
    (own : ∀ i b o, b ∈ s1.Fp i → i ∉ M → s1.H b = some o → H b = some o) (mono : ∀ b o, s1.G b = some o → G b = some o) (same : ∀ i, i ∉ M → i ∉ os → Fp i = s1.Fp i ∧ getV ei i = getV s1.env i) (sameF : ∀ i, i ∉ M → Fp i = s1.Fp i) (len : ei.length = s1.env.length)
    (R' : RelS D ms σ' ⟨e5, H4, G4, Fp4⟩) (E : ExtS Mb ⟨e3, H, G, Fp⟩ ⟨e5, H4, G4, Fp4⟩) (hMb : ∀ i, i ∈ Mb → i ∈ M) (hw : wipe σ' os = wipe σ os) (h3 : ∀ j, j ∉ os → getV e3 j = getV (wipeE ei os) j) (h0 : ∀ i, i ∈ os → gm ms i = 0) (hs1 : s1.env.length = σ'.length)
    (R1 : RelS D ms σ s1) (hp : s1.H p = none) (ry : RepV D G4 z y) : H4 p = some (.lst vs) ∧ CpI D ms M os σ s1 p (acc ++ [z]) e5 (upd H4 p (.lst (vs ++ [y]))) := by
  obtain ⟨hv4, np4, gp4⟩ := E.far p _ hv np
  have w := Rel.wiped R' h0
  rw [hw] at w
  have ne : ∀ b o, s1.H b = some o → b ≠ p := fun b o e => ne_of_none e hp
  refine ⟨hv4, ⟨G4, Fp4, vs ++ [y], w.other np4 (gp4 gp), upd_same, RepVs.app (RepVs.mono E.mono rv) ⟨y, [], rfl, ry, rfl⟩, np4, gp4 gp, fun b o e n => ?_, fun i b o hb hm e => ?_, fun b o e => E.mono b o (mono b o e), fun i hm ho => ?_, fun i hm => ?_, ?_⟩⟩
  · obtain ⟨a1, a2, a3⟩ := far b o e n
    obtain ⟨b1, b2, b3⟩ := E.far b o a1 a2
    exact ⟨by rw [upd_ne (ne b o e)]; exact b1, b2, fun q => b3 (a3 q)⟩
  · rw [upd_ne (ne b o e)]
    exact E.own i b o (by dsimp only; rw [sameF i hm]; exact hb) (fun z => hm (hMb i z)) (own i b o hb hm e)
  · obtain ⟨a1, a2⟩ := E.same i (fun z => hm (hMb i z))
    obtain ⟨b1, b2⟩ := same i hm ho
    refine ⟨a1.trans b1, a2.trans ((h3 i ho).trans ?_)⟩
    rw [getV_wipeE, if_neg ho]
    exact b2
  · exact (E.same i (fun z => hm (hMb i z))).1.trans (sameF i hm)
  · exact R'.len.trans hs1.symm
theorem Ev.R.bind_ok {r : Ev.R α} {f : α → Env → Ev.R β} {b : β} {e : Env} (h : r.bind f = .ok b e) : ∃ a e1, r = .ok a e1 ∧ f a e1 = .ok b e := by
  cases r with
  | ok a e1 => exact ⟨a, e1, rfl, h⟩
  | ex c e => cases h
  | st => cases h
theorem compL_cons {f : PV → Env → Ev.R (Option PV)} {x : PV} {xs r : List PV} {env e6 : Env} (h : compL f (x :: xs) env = .ok r e6) : ∃ o e1 r', f x env = .ok o e1 ∧ compL f xs e1 = .ok r' e6 ∧ r = (match o with | some v => v :: r' | none => r') := by
  obtain ⟨o, e1, h1, h2⟩ := Ev.R.bind_ok h
  obtain ⟨r', e2, h3, h4⟩ := Ev.R.bind_ok h2
  cases h4
  exact ⟨o, e1, r', h1, h3, rfl⟩
abbrev WF : WX := fun _ _ _ _ => False
theorem cp_read {it : CI} {os : List Nat} {t : Ev.TG} {ifs : Option CE} {d : Nat} {H : Hp} {Q : VK} (h0 : ∀ i, i ∈ os → gm ms i = 0) (htg : ∀ i, i ∈ tgs t → i ∈ os)
    (h : Rd D W ms (M1 ++ (M2 ++ M3)) (fun σ => Dlv D ms σ (.own 1)) (evE C (.cp d os t it ifs c)) σ H Q) :
    tLc (Rd D W ms M1 (fun _ xs J _ s => ItOk D s.G xs J) (evI C it)) (RdG D ms t) (Rd D WF ms M2 (fun _ (a b : Bool) _ _ => a = b) (evC C ifs)) (Rd D WF ms M3 (fun σ => Dlv D ms σ .sh) (evE C c)) os σ H Q := by
  obtain ⟨env, G, Fp, R, h⟩ := h
  refine PoA.next (s1 := ⟨env, H, G, Fp⟩) (ev := evI C it) (del0 := fun _ xs J _ s => ItOk D s.G xs J) h R Ext.refl memL fun xs J s1 R1 E1 E1' d1 k1 => ?_
  obtain ⟨vs, e6, hcp, hl, kf⟩ := fin_list k1 (fun _ _ => rfl)
  intro p hp
  refine ⟨fun i m H => m = xs.length - i ∧ i ≤ xs.length ∧ ∃ acc ei r, compL _ (xs.drop i) ei = .ok r e6 ∧ acc ++ r = vs ∧ CpI D ms (M1 ++ (M2 ++ M3)) os σ s1 p acc ei H, ⟨_, rfl, Nat.zero_le _, [], s1.env, vs, hcp, rfl, CpI.start R1 h0 hp⟩, fun i m H ⟨hm, hi, acc, ei, r, hr, ha, I⟩ => ?_⟩
  have I0 := I
  obtain ⟨G, Fp, us, Ri, hv, rv, np, gp, far, own, mono, same, sameF, len⟩ := I.ex
  obtain ⟨go, stp, yl⟩ := d1 H i fun b o e => Ri.sub b o (mono b o e)
  by_cases hlt : i < xs.length
  · right
    refine ⟨go hlt, fun H' => ∃ acc ei r, compL _ (xs.drop (i + 1)) ei = .ok r e6 ∧ acc ++ r = vs ∧ CpI D ms (M1 ++ (M2 ++ M3)) os σ s1 p acc ei H', fun H' ⟨acc, ei, r, q1, q2, q3⟩ => ⟨_, ?_, rfl, by omega, acc, ei, r, q1, q2, q3⟩, fun x H' hy => ?_⟩
    · omega
    · obtain ⟨hH, pv, hpv, rpv⟩ := yl x H' hy hlt
      rw [hH]
      have hx : xs.drop i = pv :: xs.drop (i + 1) := by
        rw [List.drop_eq_getElem_cons hlt]
        congr 1
        rw [List.getElem?_eq_getElem hlt] at hpv
        exact Option.some.inj hpv
      rw [hx] at hr
      obtain ⟨o, e5, r', hfx, hrest, hr'⟩ := compL_cons hr
      have hfx : (match setTG t pv (wipeE ei os) with
        | some e3 => (evC C ifs e3).bind fun t e4 => if t then (evE C c e4).bind fun v e5 => .ok (some v) e5 else .ok none e4
        | none => .st) = Ev.R.ok o e5 := hfx
      cases q3 : setTG t pv (wipeE ei os) with
      | none => rw [q3] at hfx; cases hfx
      | some e3 =>
        rw [q3] at hfx
        obtain ⟨tt, e4, h4, h5⟩ := Ev.R.bind_ok hfx
        refine ⟨pv, wipeE ei os, G, Fp, e3, Ri, RepV.mono mono rpv, q3, fun σ' R3 hσ => ?_⟩
        have hl' : σ'.length = σ.length := by
          have a1 := R3.len
          have a2 := R1.len
          have a3 := setTG_len q3
          rw [wipeE_len] at a3
          dsimp only at a1
          omega
        have hw : wipe σ' os = wipe σ os := wipe_same hl' fun j hj => by
          rw [(hσ j (fun z => hj (htg j z))).1, wipe_get os σ j hj]
        have h3 : ∀ j, j ∉ os → getV e3 j = getV (wipeE ei os) j := fun j hj => (hσ j (fun z => hj (htg j z))).2
        have hs1 : s1.env.length = σ'.length := R1.len.trans hl'.symm
        refine ⟨hw, Rd.of_ok (s := ⟨e3, H, G, Fp⟩) R3 h4 fun b H3 G3 Fp3 R4 E4 hbt => ?_⟩
        subst hbt
        cases tt with
        | false =>
          rw [if_neg (by simp)] at h5 ⊢
          cases h5
          rw [hr'] at ha
          exact ⟨acc, _, r', hrest, ha, CpI.turn Ri hv rv np gp far own mono same sameF len R4 E4 (fun i h => memR _ (memL _ h)) hw h3 h0 hs1⟩
        | true =>
          rw [if_pos rfl] at h5 ⊢
          obtain ⟨v, e5', h6, h7⟩ := Ev.R.bind_ok h5
          cases h7
          refine Rd.of_ok (s := ⟨e4, H3, G3, Fp3⟩) R4 h6 fun y H4 G4 Fp4 R5 E5 dy => ?_
          have E45 : ExtS (M2 ++ M3) ⟨e3, H, G, Fp⟩ ⟨e5, H4, G4, Fp4⟩ := Ext.trans2 E4 E5 memL memR
          obtain ⟨hv4, I4⟩ := CpI.turn2 (M := M1 ++ (M2 ++ M3)) Ri hv rv np gp far own mono same sameF len R5 E45 memR hw h3 h0 hs1 R1 hp dy
          refine ⟨us, hv4, ?_, acc ++ [v], e5, r', hrest, ?_, I4⟩
          · rw [← rv.length]
            have : vs.length ≤ 16777216 := hl
            rw [← ha, hr'] at this
            simp only [List.length_append, List.length_cons] at this
            show acc.length < 16777216
            omega
          · rw [List.append_assoc, List.singleton_append]
            rw [hr'] at ha
            exact ha
  · left
    have hi' : i = xs.length := by omega
    refine ⟨stp (by omega), ?_⟩
    rw [hi', List.drop_length] at hr
    cases hr
    rw [List.append_nil] at ha
    subst ha
    exact CpI.fin I0 R1 E1' h0 hp kf
theorem s_cp (e : D.K = X.K) (hc : X.calm = true) (hnd : X.N.Nodup) {it : CI} {iter elt : Expr} {eifs : List Expr} {scope : Scope} {ow : List (Str × Nat)} {os : List Nat} {t : Ev.TG} {ifs : Option CE} {d : Nat}
    (ho : ow.map (fun x => x.snd) = os) (hi : SI D X C W ms M1 it tg iter) (hb : BlkOk X.N X.env.scope scope ow)
    (hg : ∀ (s : Shared) (H : Hp) (Ca : Addr) (cl : List (Str × Addr)) (fp : List Addr), SG D (X.blk s H scope (compEnvC scope cl Ca X.env) fp) ms t tg)
    (ht : ∀ (s : Shared) (H : Hp) (Ca : Addr) (cl : List (Str × Addr)) (fp : List Addr), SC D (X.blk s H scope (compEnvC scope cl Ca X.env) fp) C WF ms M2 ifs eifs)
    (he : ∀ (s : Shared) (H : Hp) (Ca : Addr) (cl : List (Str × Addr)) (fp : List Addr), SE D (X.blk s H scope (compEnvC scope cl Ca X.env) fp) C WF ms M3 .sh c elt)
    (h0 : ∀ i, i ∈ os → gm ms i = 0) (htg : ∀ i, i ∈ tgs t → i ∈ os) (hf : ∀ x, foldedSetIterable iter X.env x = pure x) :
    SE D X C W ms (M1 ++ (M2 ++ M3)) (.own 1) (.cp d os t it ifs c) (.ListComp elt [⟨tg, iter, eifs, 0⟩] scope pos) := by
  subst ho
  exact PE.imp (pe_lc hc hnd hi hb hg ht he hf) fun σ H Q h => cp_read h0 htg h
end
end Ev

/-! Ev9: calls of the program's own functions. -/
namespace Ev
open PySem PySem.Spec PyProof.Rows L2
abbrev ExtA (s s' : Sta) : Prop := Ext (fun _ => True) s.env s.H s.G s.Fp s'.env s'.H s'.G s'.Fp
/-- the last values of the in-out parameters, each at its place -/
def outE : List Bool → List PV → Option Env
  | [], [] => some []
  | true :: r, y :: ys => (outE r ys).map (some y :: ·)
  | false :: r, ys => (outE r ys).map (none :: ·)
  | _, _ => none
def PoF (D : Dm) (io : List Bool) (ms : List Nat) (rm : Nat) (σ : L2.St) (s0 : Sta) (r : CR) (Q : VK) (E : XK) : Prop := match r with
  | .ok x fin => ∀ env v H G Fp, outE io fin = some env → RelS D ms σ ⟨env, H, G, Fp⟩ → ExtA s0 ⟨env, H, G, Fp⟩ → Dlv D ms σ (.own rm) x v s0 ⟨env, H, G, Fp⟩ → Q v H
  | .ex k fin => ∀ env H G Fp, outE io fin = some env → RelS D ms σ ⟨env, H, G, Fp⟩ → ExtA s0 ⟨env, H, G, Fp⟩ → E (.ref (D.xa k)) none H
  | .st => False
/-- the promise of the def number f -/
def spF (D : Dm) (C : Calls) (f : Nat) (io : List Bool) (ms : List Nat) (rm : Nat) : Sp := fun vs H Q E =>
  ∃ ps G Fp, RelS D ms (vs.map some) ⟨ps.map some, H, G, Fp⟩ ∧ ps.length = io.length ∧ PoF D io ms rm (vs.map some) ⟨ps.map some, H, G, Fp⟩ (C f ps) Q E
/-- the arguments as they are handed over: by value, or a slot's own list, in and out -/
def DelA (D : Dm) (σ : L2.St) (G : Hp) : List (Option Nat) → List AV → List V → Prop
  | [], [], [] => True
  | none :: k, .v p :: r, v :: vs => RepV D G p v ∧ DelA D σ G k r vs
  | some i :: k, .io j :: r, v :: vs => j = i ∧ σ[i]? = some (some v) ∧ DelA D σ G k r vs
  | _, _, _ => False
def SAv (D : Dm) (X : Cx) (C : Calls) (W : WX) (ms : List Nat) (M : List Nat) (ks : List (Option Nat)) (cs : List CE) (es : List Expr) : Prop := PA X es (Rd D W ms M (fun σ as vs _ s => DelA D σ s.G ks as vs) (evA C cs))
def okK (ms : List Nat) : List (Option Nat) → List Nat → Bool
  | [], [] => true
  | none :: k, m :: fms => m == 0 && okK ms k fms
  | some i :: k, m :: fms => m == gm ms i && okK ms k fms
  | _, _ => false
def dupOk : List (Option Nat) → Bool
  | [] => true
  | none :: k => dupOk k
  | some i :: k => !k.contains (some i) && dupOk k
def posK : List (Option Nat) → Nat → Option Nat
  | [], _ => none
  | k :: r, i => if k = some i then some 0 else (posK r i).map (· + 1)
def notIo : CE → Bool
  | .io _ => false
  | .bv _ => false
  | _ => true
section
variable {D : Dm} {X : Cx} {C : Calls} {W : WX} {ms fms : List Nat} {M M1 M2 M3 : List Nat} {σ : L2.St} {s0 s1 s2 : Sta} {x y : PV} {v u : V} {dl dl1 dl2 dl3 : Dl} {a b c : CE} {ea eb ec tg : Expr} {pos p1 p2 : Pos}
theorem DelA.mono {G G' : Hp} (m : ∀ b o, G b = some o → G' b = some o) : ∀ {ks : List (Option Nat)} {as : List AV} {vs : List V}, DelA D σ G ks as vs → DelA D σ G' ks as vs
  | [], [], [], h => h
  | none :: k, .v p :: r, v :: vs, h => ⟨RepV.mono m h.1, DelA.mono m h.2⟩
  | some i :: k, .io j :: r, v :: vs, h => ⟨h.1, h.2.1, DelA.mono m h.2.2⟩
  | [], [], _ :: _, h | [], _ :: _, _, h | none :: _, [], _, h | some _ :: _, [], _, h | none :: _, .v _ :: _, [], h | none :: _, .io _ :: _, _, h | none :: _, .bv _ :: _, _, h | some _ :: _, .v _ :: _, _, h | some _ :: _, .bv _ :: _, _, h | some _ :: _, .io _ :: _, [], h => h.elim
theorem av_nil : SAv D X C W ms [] [] [] [] := PA.imp pa_nil fun σ H Q ⟨env, G, Fp, R, h⟩ => h [] H G Fp R Ext.refl trivial
theorem evA_v {cs : List CE} {env : Env} (h : notIo a = true) : evA C (a :: cs) env = (evE C a env).bind fun v e1 => (evA C cs e1).bind fun vs e2 => .ok (.v v :: vs) e2 := by
  cases a <;> first | rfl | cases h
theorem av_v {ks : List (Option Nat)} {cs : List CE} {es : List Expr} (hn : notIo a = true) (ha : SE D X C W ms M1 .sh a ea) (hs : SAv D X C W ms M2 ks cs es) (hst : starEach (ea :: es) X.env = (false, eval ea X.env) :: starEach es X.env) : SAv D X C W ms (M1 ++ M2) (none :: ks) (a :: cs) (ea :: es) := by
  refine PA.imp (pa_cons ha hs hst) fun σ H Q ⟨env, G, Fp, R, h⟩ => ?_
  rw [evA_v hn] at h
  refine PoA.next (s1 := ⟨env, H, G, Fp⟩) (del0 := fun σ => Dlv D ms σ .sh) (ev := evE C a) h R Ext.refl memL fun x vx s1 R1 E1 E1' d1 k1 => ?_
  refine PoA.next (del0 := fun σ as vs _ s => DelA D σ s.G ks as vs) (ev := evA C cs) k1 R1 E1' memR fun xs vs s2 R2 E2 E2' d2 k2 => ?_
  exact k2 _ _ _ _ R2 E2' ⟨RepV.mono E2.mono d1, d2⟩
theorem av_io {i : Nat} {x : Str} {ks : List (Option Nat)} {cs : List CE} {es : List Expr} (hN : X.N[i]? = some x) (hv : Vis X.env.scope x) (h1 : (x == ("__debug__" : Str)) = false) (h2 : (x == ("__classdict__" : Str)) = false) (hs : SAv D X C W ms M ks cs es)
    (hst : starEach (.Name x pos :: es) X.env = (false, eval (.Name x pos) X.env) :: starEach es X.env) : SAv D X C W ms M (some i :: ks) (.io i :: cs) (.Name x pos :: es) := by
  refine PA.imp (pa_cons (pe_var hN hv h1 h2) hs hst) fun σ H Q ⟨env, G, Fp, R, h⟩ => ?_
  have h : PoA D W ms σ M (fun as vs _ s => DelA D σ s.G (some i :: ks) as vs) ⟨env, H, G, Fp⟩ ((Ev.R.of (getV env i) env).bind fun _ e1 => (evA C cs e1).bind fun vs e2 => .ok (.io i :: vs) e2) Q := h
  cases q : getV env i with
  | none => rw [q] at h; exact h.elim
  | some x =>
    rw [q] at h
    obtain ⟨w, e1, o⟩ := R.at_ i x q
    refine ⟨w, e1, PoA.next (s1 := ⟨env, H, G, Fp⟩) (del0 := fun σ as vs _ s => DelA D σ s.G ks as vs) (ev := evA C cs) h R Ext.refl (fun _ h => h) fun xs vs s2 R2 E2 E2' d2 k2 => ?_⟩
    exact k2 _ _ _ _ R2 E2' ⟨rfl, e1, d2⟩
/-! the pieces of a call -/
theorem posK_some : ∀ {ks : List (Option Nat)} {i j : Nat}, posK ks i = some j → ks[j]? = some (some i)
  | [], _, _, h => by cases h
  | k :: r, i, j, h => by
    unfold posK at h
    by_cases e : k = some i
    · rw [if_pos e] at h
      cases h
      rw [e]
      rfl
    · rw [if_neg e, Option.map_eq_some_iff] at h
      obtain ⟨m, hm, rfl⟩ := h
      simpa using posK_some hm
theorem posK_none : ∀ {ks : List (Option Nat)} {i : Nat}, posK ks i = none → ∀ (j : Nat), ks[j]? ≠ some (some i)
  | [], _, _, j, q => by simp at q
  | k :: r, i, h, j, q => by
    unfold posK at h
    by_cases e : k = some i
    · rw [if_pos e] at h; cases h
    · rw [if_neg e, Option.map_eq_none_iff] at h
      cases j with
      | zero => simp at q; exact e q
      | succ j => exact posK_none h j (by simpa using q)
theorem posK_mem {ks : List (Option Nat)} {i : Nat} (h : i ∉ ks.filterMap id) : posK ks i = none := by
  cases q : posK ks i with
  | none => rfl
  | some j =>
    have := posK_some q
    exact absurd (show i ∈ ks.filterMap id from List.mem_filterMap.mpr ⟨some i, List.mem_of_getElem? this, rfl⟩) h
theorem dupOk_at : ∀ {ks : List (Option Nat)} {i j j' : Nat}, dupOk ks = true → ks[j]? = some (some i) → ks[j']? = some (some i) → j = j'
  | [], _, _, _, _, q, _ => by simp at q
  | none :: k, i, 0, _, h, q, _ => by simp at q
  | none :: k, i, j + 1, 0, h, _, q => by simp at q
  | none :: k, i, j + 1, j' + 1, h, q, q' => congrArg (· + 1) (dupOk_at (ks := k) (i := i) (by simpa [dupOk] using h) (by simpa using q) (by simpa using q'))
  | some l :: k, i, 0, 0, h, q, q' => rfl
  | some l :: k, i, 0, j' + 1, h, q, q' => by
    simp [dupOk] at h q q'
    subst q
    exact absurd (List.mem_of_getElem? q') h.1
  | some l :: k, i, j + 1, 0, h, q, q' => by
    simp [dupOk] at h q q'
    subst q'
    exact absurd (List.mem_of_getElem? q) h.1
  | some l :: k, i, j + 1, j' + 1, h, q, q' => congrArg (· + 1) (dupOk_at (ks := k) (i := i) (by simp [dupOk] at h; exact h.2) (by simpa using q) (by simpa using q'))
theorem okK_at : ∀ {ks : List (Option Nat)} {fms : List Nat} {j : Nat} {k : Option Nat}, okK ms ks fms = true → ks[j]? = some k → gm fms j = (match k with | none => 0 | some i => gm ms i)
  | [], _, _, _, _, q => by simp at q
  | none :: k, [], j, _, h, q => by cases h
  | some i :: k, [], j, _, h, q => by cases h
  | none :: k, m :: fms, 0, _, h, q => by
    simp [okK] at h q
    subst q
    simp [gm, h.1]
  | some i :: k, m :: fms, 0, _, h, q => by
    simp [okK] at h q
    subst q
    simp [gm, h.1]
  | none :: k, m :: fms, j + 1, _, h, q => by
    simp [okK] at h q
    have := okK_at h.2 q
    simpa [gm] using this
  | some i :: k, m :: fms, j + 1, _, h, q => by
    simp [okK] at h q
    have := okK_at h.2 q
    simpa [gm] using this
theorem DelA.at_ {G : Hp} {env : Env} : ∀ {ks : List (Option Nat)} {as : List AV} {vs : List V} {ps : List PV}, DelA D σ G ks as vs → avs env as = some ps →
    ps.length = ks.length ∧ vs.length = ks.length ∧ ∀ (j : Nat) x, ps[j]? = some x → ∃ v, vs[j]? = some v ∧ ((ks[j]? = some none ∧ RepV D G x v) ∨ ∃ i, ks[j]? = some (some i) ∧ getV env i = some x ∧ σ[i]? = some (some v))
  | [], [], [], ps, h, e => by
    cases e
    exact ⟨rfl, rfl, fun j x q => by simp at q⟩
  | none :: k, .v p :: r, v :: vs, ps, h, e => by
    have e : (match AV.get env (.v p), avs env r with | some x, some xs => some (x :: xs) | _, _ => none) = some ps := e
    cases q : avs env r with
    | none => rw [q] at e; cases e
    | some xs =>
      rw [q] at e
      cases e
      obtain ⟨l1, l2, f⟩ := DelA.at_ h.2 q
      refine ⟨by simp [l1], by simp [l2], fun j x hj => ?_⟩
      cases j with
      | zero =>
        simp at hj
        subst hj
        exact ⟨v, rfl, .inl ⟨rfl, h.1⟩⟩
      | succ j =>
        obtain ⟨w, a, b⟩ := f j x (by simpa using hj)
        exact ⟨w, by simpa using a, by simpa using b⟩
  | some i :: k, .io j :: r, v :: vs, ps, h, e => by
    obtain ⟨rfl, h2, h3⟩ := h
    have e : (match AV.get env (.io j), avs env r with | some x, some xs => some (x :: xs) | _, _ => none) = some ps := e
    cases q : avs env r with
    | none => rw [q] at e; cases q' : AV.get env (.io j) <;> rw [q'] at e <;> cases e
    | some xs =>
      cases q' : AV.get env (.io j) with
      | none => rw [q'] at e; cases e
      | some y =>
        rw [q, q'] at e
        cases e
        obtain ⟨l1, l2, f⟩ := DelA.at_ h3 q
        refine ⟨by simp [l1], by simp [l2], fun m x hj => ?_⟩
        cases m with
        | zero =>
          simp at hj
          subst hj
          exact ⟨v, rfl, .inr ⟨j, rfl, q', h2⟩⟩
        | succ m =>
          obtain ⟨w, a, b⟩ := f m x (by simpa using hj)
          exact ⟨w, by simpa using a, by simpa using b⟩
  | [], [], _ :: _, _, h, _ | [], _ :: _, _, _, h, _ | none :: _, [], _, _, h, _ | some _ :: _, [], _, _, h, _ | none :: _, .v _ :: _, [], _, h, _ | none :: _, .io _ :: _, _, _, h, _ | none :: _, .bv _ :: _, _, _, h, _ | some _ :: _, .v _ :: _, _, _, h, _ | some _ :: _, .bv _ :: _, _, _, h, _ | some _ :: _, .io _ :: _, [], _, h, _ => h.elim
theorem DelA.noB {G : Hp} : ∀ {ks : List (Option Nat)} {as : List AV} {vs : List V}, DelA D σ G ks as vs → hasB as = false
  | [], [], [], _ => rfl
  | none :: k, .v p :: r, v :: vs, h => DelA.noB (ks := k) (as := r) (vs := vs) h.2
  | some i :: k, .io j :: r, v :: vs, h => DelA.noB (ks := k) (as := r) (vs := vs) h.2.2
  | [], [], _ :: _, h | [], _ :: _, _, h | none :: _, [], _, h | some _ :: _, [], _, h | none :: _, .v _ :: _, [], h | none :: _, .io _ :: _, _, h | none :: _, .bv _ :: _, _, h | some _ :: _, .v _ :: _, _, h | some _ :: _, .bv _ :: _, _, h | some _ :: _, .io _ :: _, [], h => h.elim
theorem putB_len : ∀ {as : List AV} {fin : List PV} {env env' : Env}, putB as fin env = some env' → env'.length = env.length
  | [], [], _, _, h => by cases h; rfl
  | [], _ :: _, _, _, h => by cases h
  | .io i :: r, [], _, _, h => by cases h
  | .io i :: r, v :: vs, env, env', h => by
    have h : putB r vs (env.set i (some v)) = some env' := h
    rw [putB_len h, List.length_set]
  | .v _ :: r, vs, env, env', h => by
    have h : putB r vs env = some env' := by cases vs <;> exact h
    exact putB_len h
  | .bv _ :: r, vs, env, env', h => by
    have h : putB r vs env = some env' := by cases vs <;> exact h
    exact putB_len h
theorem putB_get {G : Hp} : ∀ {ks : List (Option Nat)} {as : List AV} {vs : List V} {fin : List PV} {env env3 env' : Env}, DelA D σ G ks as vs → dupOk ks = true → (∀ i, some i ∈ ks → i < env.length) → putB as fin env = some env3 → outE (ks.map Option.isSome) fin = some env' →
    ∀ i, getV env3 i = (match posK ks i with | some j => getV env' j | none => getV env i)
  | [], [], [], fin, env, env3, env', _, _, _, h, _, i => by
    cases fin with
    | nil =>
      cases h
      rfl
    | cons => cases h
  | none :: k, .v p :: r, v :: vs, fin, env, env3, env', d, hd, hl, h, ho, i => by
    have h : putB r fin env = some env3 := by cases fin <;> exact h
    have ho : (outE (k.map Option.isSome) fin).map (none :: ·) = some env' := by cases fin <;> exact ho
    rw [Option.map_eq_some_iff] at ho
    obtain ⟨e2, ho2, rfl⟩ := ho
    rw [putB_get d.2 (by simpa [dupOk] using hd) (fun i hi => hl i (List.mem_cons_of_mem _ hi)) h ho2 i]
    rw [show posK (none :: k) i = (posK k i).map (· + 1) from if_neg (by simp)]
    cases posK k i <;> rfl
  | some l :: k, .io j :: r, v :: vs, fin, env, env3, env', d, hd, hl, h, ho, i => by
    obtain ⟨rfl, d2, d3⟩ := d
    cases fin with
    | nil => cases h
    | cons y ys =>
      have h : putB r ys (env.set j (some y)) = some env3 := h
      have ho : (outE (k.map Option.isSome) ys).map (some y :: ·) = some env' := ho
      rw [Option.map_eq_some_iff] at ho
      obtain ⟨e2, ho2, rfl⟩ := ho
      have hd' : some j ∉ k ∧ dupOk k = true := by simpa [dupOk] using hd
      rw [putB_get d3 hd'.2 (fun i hi => by rw [List.length_set]; exact hl i (List.mem_cons_of_mem _ hi)) h ho2 i]
      rw [show posK (some j :: k) i = if some j = some i then some 0 else (posK k i).map (· + 1) from rfl]
      by_cases e : j = i
      · subst e
        rw [if_pos rfl]
        have : posK k j = none := posK_mem fun z => by
          rw [List.mem_filterMap] at z
          obtain ⟨o, z1, z2⟩ := z
          have : o = some j := z2
          rw [this] at z1
          exact hd'.1 z1
        rw [this]
        dsimp only
        rw [getV_set, if_pos ⟨rfl, hl j (List.mem_cons_self ..)⟩]
        rfl
      · rw [if_neg (fun z => e (Option.some.inj z))]
        cases posK k i with
        | some m => rfl
        | none =>
          dsimp only [Option.map]
          rw [getV_set, if_neg (fun z => e z.1)]
  | [], [], _ :: _, _, _, _, _, h, _, _, _, _, _ | [], _ :: _, _, _, _, _, _, h, _, _, _, _, _ | none :: _, [], _, _, _, _, _, h, _, _, _, _, _ | some _ :: _, [], _, _, _, _, _, h, _, _, _, _, _ | none :: _, .v _ :: _, [], _, _, _, _, h, _, _, _, _, _ | none :: _, .io _ :: _, _, _, _, _, _, h, _, _, _, _, _ | none :: _, .bv _ :: _, _, _, _, _, _, h, _, _, _, _, _ | some _ :: _, .v _ :: _, _, _, _, _, _, h, _, _, _, _, _ | some _ :: _, .bv _ :: _, _, _, _, _, _, h, _, _, _, _, _ | some _ :: _, .io _ :: _, [], _, _, _, _, h, _, _, _, _, _ => h.elim
/-- the footprints of the callee's parameters -/
def fpC (Fp : Fps) (ks : List (Option Nat)) (j : Nat) : List Addr := match ks[j]? with
  | some (some i) => Fp i
  | _ => []
/-- the caller's footprints behind the call -/
def fpB (Fp Fp' : Fps) (ks : List (Option Nat)) (i : Nat) : List Addr := match posK ks i with
  | some j => Fp' j
  | none => Fp i
theorem fpC_in {Fp : Fps} {ks : List (Option Nat)} {j : Nat} {b : Addr} (h : b ∈ fpC Fp ks j) : ∃ i, ks[j]? = some (some i) ∧ b ∈ Fp i := by
  unfold fpC at h
  cases q : ks[j]? with
  | none => rw [q] at h; cases h
  | some o =>
    cases o with
    | none => rw [q] at h; cases h
    | some i => rw [q] at h; exact ⟨i, rfl, h⟩
theorem getV_map {ps : List PV} {j : Nat} {x : PV} : getV (ps.map some) j = some x ↔ ps[j]? = some x := by
  unfold getV
  rw [List.getElem?_map]
  cases ps[j]? <;> simp
theorem call_in {ks : List (Option Nat)} {as : List AV} {vs : List V} {ps : List PV} {env : Env} {H G : Hp} {Fp : Fps} (R : RelS D ms σ ⟨env, H, G, Fp⟩) (d : DelA D σ G ks as vs) (ha : avs env as = some ps) (hK : okK ms ks fms = true) (hd : dupOk ks = true) :
    RelS D fms (vs.map some) ⟨ps.map some, H, G, fpC Fp ks⟩ := by
  obtain ⟨l1, l2, f⟩ := d.at_ ha
  refine ⟨fun j x q => ?_, fun j q => ?_, R.sub, fun j b hb => ?_, fun j => ?_, fun j j' b hb hb' => ?_, by simp [l1, l2]⟩
  · obtain ⟨v, e1, h⟩ := f j x (getV_map.mp q)
    refine ⟨v, by simp [e1], ?_⟩
    rcases h with ⟨e2, r⟩ | ⟨i, e2, e3, e4⟩
    · rw [okK_at hK e2]
      exact OwnR.zero.mpr ⟨by simp [fpC, e2], r⟩
    · rw [okK_at hK e2]
      obtain ⟨w, e5, o⟩ := R.at_ i x e3
      rw [e4] at e5
      cases e5
      have : fpC Fp ks j = Fp i := by simp [fpC, e2]
      dsimp only
      rw [this]
      exact o
  · dsimp only at q ⊢
    have : ks[j]? = none := by
      cases e : ks[j]? with
      | none => rfl
      | some k =>
        have hl : j < ks.length := by
          rcases Nat.lt_or_ge j ks.length with h | h
          · exact h
          · rw [List.getElem?_eq_none h] at e; cases e
        have : ps[j]? = some ps[j] := List.getElem?_eq_getElem (by omega)
        rw [getV_map.mpr this] at q
        cases q
    simp [fpC, this]
  · obtain ⟨i, _, h⟩ := fpC_in hb
    exact R.dis i b h
  · dsimp only [fpC]
    split
    · exact R.nd _
    · exact List.Pairwise.nil
  · obtain ⟨i, e1, h1⟩ := fpC_in hb
    obtain ⟨i', e2, h2⟩ := fpC_in hb'
    have := R.sep i i' b h1 h2
    subst this
    exact dupOk_at hd e1 e2
theorem call_out {ks : List (Option Nat)} {as : List AV} {vs : List V} {ps fin : List PV} {env env3 env' : Env} {H G H' G' : Hp} {Fp Fp' : Fps} (R : RelS D ms σ ⟨env, H, G, Fp⟩) (d : DelA D σ G ks as vs) (ha : avs env as = some ps) (hK : okK ms ks fms = true) (hd : dupOk ks = true)
    (hp : putB as fin env = some env3) (ho : outE (ks.map Option.isSome) fin = some env') (R' : RelS D fms (vs.map some) ⟨env', H', G', Fp'⟩) (E : ExtA ⟨ps.map some, H, G, fpC Fp ks⟩ ⟨env', H', G', Fp'⟩) :
    RelS D ms σ ⟨env3, H', G', fpB Fp Fp' ks⟩ ∧ ExtS (ks.filterMap id) ⟨env, H, G, Fp⟩ ⟨env3, H', G', fpB Fp Fp' ks⟩ ∧
    ∀ n x v, Dlv D fms (vs.map some) (.own n) x v ⟨ps.map some, H, G, fpC Fp ks⟩ ⟨env', H', G', Fp'⟩ → Dlv D ms σ (.own n) x v ⟨env, H, G, Fp⟩ ⟨env3, H', G', fpB Fp Fp' ks⟩ := by
  obtain ⟨l1, l2, f⟩ := d.at_ ha
  have at_k : ∀ j i, ks[j]? = some (some i) → ∃ x v, getV env i = some x ∧ σ[i]? = some (some v) ∧ vs[j]? = some v := fun j i e => by
    have hl : j < ks.length := by
      rcases Nat.lt_or_ge j ks.length with h | h
      · exact h
      · rw [List.getElem?_eq_none h] at e; cases e
    obtain ⟨v, e1, h⟩ := f j ps[j] (List.getElem?_eq_getElem (by omega))
    rcases h with ⟨e2, _⟩ | ⟨i', e2, e3, e4⟩
    · rw [e] at e2; cases e2
    · rw [e] at e2
      cases e2
      exact ⟨_, v, e3, e4, e1⟩
  have hlt : ∀ i, some i ∈ ks → i < env.length := fun i hi => by
    obtain ⟨j, hj⟩ := List.mem_iff_getElem?.mp hi
    obtain ⟨x, v, e1, _⟩ := at_k j i hj
    exact getV_lt e1
  have gv := putB_get d hd hlt hp ho
  have nC : ∀ i b, b ∈ Fp i → posK ks i = none → ∀ j, b ∉ fpC Fp ks j := fun i b hb hn j hj => by
    obtain ⟨i', e1, h1⟩ := fpC_in hj
    have := R.sep i i' b hb h1
    subst this
    exact posK_none hn j e1
  have nC' : ∀ b, (∀ i, b ∉ Fp i) → ∀ j, b ∉ fpC Fp ks j := fun b h j hj => by
    obtain ⟨i', e1, h1⟩ := fpC_in hj
    exact h i' h1
  have keep : ∀ i b, b ∈ Fp i → posK ks i = none → ∃ o, H b = some o ∧ H' b = some o ∧ (∀ j, b ∉ Fp' j) ∧ G' b = none := fun i b hb hn => by
    obtain ⟨us, e⟩ := R.has hb
    obtain ⟨a1, a2, a3⟩ := E.far b _ e (nC i b hb hn)
    exact ⟨_, e, a1, a2, a3 (R.dis i b hb)⟩
  have fB : ∀ i b, b ∈ fpB Fp Fp' ks i → (∃ j, posK ks i = some j ∧ b ∈ Fp' j) ∨ (posK ks i = none ∧ b ∈ Fp i) := fun i b h => by
    unfold fpB at h
    cases q : posK ks i with
    | none => rw [q] at h; exact .inr ⟨rfl, h⟩
    | some j => rw [q] at h; exact .inl ⟨j, rfl, h⟩
  refine ⟨⟨fun i x q => ?_, fun i q => ?_, R'.sub, fun i b hb => ?_, fun i => ?_, fun i i' b hb hb' => ?_, by rw [putB_len hp]; exact R.len⟩, ⟨fun b o e n => ?_, fun i b o hb hm e => ?_, E.mono, fun i hm => ?_⟩, fun n x v ⟨F, t, nw⟩ => ⟨F, ⟨t.own, fun b hb => ⟨(t.dis b hb).1, fun i hi => ?_⟩, t.nd⟩, fun b o e n => nw b o e (nC' b n)⟩⟩
  · dsimp only at q ⊢
    rw [gv i] at q
    cases hk : posK ks i with
    | none =>
      rw [hk] at q
      obtain ⟨v, e1, o⟩ := R.at_ i x q
      have : fpB Fp Fp' ks i = Fp i := by simp [fpB, hk]
      rw [this]
      refine ⟨v, e1, o.mono E.mono fun b hb u e => ?_⟩
      obtain ⟨o', a1, a2, _⟩ := keep i b hb hk
      dsimp only at e
      rw [a1] at e
      cases e
      exact a2
    | some j =>
      rw [hk] at q
      obtain ⟨v, e1, o⟩ := R'.at_ j x q
      obtain ⟨_, w, _, e3, e4⟩ := at_k j i (posK_some hk)
      have e1 : (vs.map some)[j]? = some (some v) := e1
      rw [List.getElem?_map, e4] at e1
      cases e1
      have : fpB Fp Fp' ks i = Fp' j := by simp [fpB, hk]
      rw [this]
      rw [okK_at hK (posK_some hk)] at o
      exact ⟨_, e3, o⟩
  · dsimp only at q ⊢
    rw [gv i] at q
    cases hk : posK ks i with
    | none =>
      rw [hk] at q
      have : fpB Fp Fp' ks i = Fp i := by simp [fpB, hk]
      rw [this]
      exact R.no i q
    | some j =>
      rw [hk] at q
      have : fpB Fp Fp' ks i = Fp' j := by simp [fpB, hk]
      rw [this]
      exact R'.no j q
  · rcases fB i b hb with ⟨j, _, h⟩ | ⟨hk, h⟩
    · exact R'.dis j b h
    · obtain ⟨_, _, _, _, a⟩ := keep i b h hk
      exact a
  · dsimp only [fpB]
    split
    · exact R'.nd _
    · exact R.nd _
  · rcases fB i b hb with ⟨j, hk, h⟩ | ⟨hk, h⟩ <;> rcases fB i' b hb' with ⟨j', hk', h'⟩ | ⟨hk', h'⟩
    · have := R'.sep j j' b h h'
      subst this
      have e1 := posK_some hk
      rw [posK_some hk'] at e1
      cases e1
      rfl
    · obtain ⟨_, _, _, a, _⟩ := keep i' b h' hk'
      exact absurd h (a j)
    · obtain ⟨_, _, _, a, _⟩ := keep i b h hk
      exact absurd h' (a j')
    · exact R.sep i i' b h h'
  · obtain ⟨a1, a2, a3⟩ := E.far b o e (nC' b n)
    refine ⟨a1, fun i hi => ?_, a3⟩
    rcases fB i b hi with ⟨j, _, h⟩ | ⟨hk, h⟩
    · exact a2 j h
    · exact n i h
  · exact (E.far b o e (nC i b hb (posK_mem hm))).1
  · have hk := posK_mem hm
    refine ⟨by simp [fpB, hk], ?_⟩
    dsimp only
    rw [gv i, hk]
  · rcases fB i b hi with ⟨j, _, h⟩ | ⟨hk, h⟩
    · exact (t.dis b hb).2 j h
    · obtain ⟨o, a1, _⟩ := keep i b h hk
      exact nw b o a1 (nC i b h hk) hb
theorem s_call {f k : Nat} {fa : Addr} {fd : FuncData} {pns : List Str} {io : List Bool} {rm : Nat} {nm : Str} {ks : List (Option Nat)} {cs : List CE} {es : List Expr}
    (F : FnOk X.prog X.w X.K X.mg X.base (CX X.prog X.w) k fa fd pns (spF D C f io fms rm)) (hr : Room k X.A) (hg : Gl X nm) (hm : X.mg nm = some (.ref fa)) (kp : PySem.W.keepIn X.K (.ref fa) = true) (hb : Binds X.K fd pns []) (tk : Takes X W)
    (hs : SAv D X C W ms M ks cs (ea :: es)) (hK : okK ms ks fms = true) (hd : dupOk ks = true) (hio : ks.map Option.isSome = io) (h1 : (nm == ("__debug__" : Str)) = false)
    (hst : starEach (ea :: es) X.env = (false, eval ea X.env) :: starEach es X.env) (hst2 : ((backTo pos (starEach es X.env)).any fun x => x.fst) = false) :
    SE D X C W ms (M ++ ks.filterMap id) (.own rm) (.call f cs) (.Call (.Name nm p1) (ea :: es) [] pos) := by
  subst hio
  refine PE.imp (pe_callS F hr hg hm kp hb (fun σ => passAt tk σ) hs h1 hst hst2) fun σ H Q ⟨env, G, Fp, R, h⟩ => ?_
  refine PoA.next (s1 := ⟨env, H, G, Fp⟩) (del0 := fun σ as vs _ s => DelA D σ s.G ks as vs) (ev := evA C cs) h R Ext.refl memL fun as vs s1 R1 E1 E1' d1 k1 => ?_
  have k1 : PoA D W ms σ (M ++ ks.filterMap id) (Dlv D ms σ (.own rm)) ⟨env, H, G, Fp⟩ (match avs s1.env as with
    | none => .st
    | some vs => match C f vs with
      | .ok v fin => (match putB as fin s1.env with
        | some env' => if hasB as && !v.lf then .st else .ok v env'
        | none => .st)
      | .ex c fin => (match putB as fin s1.env with
        | some env' => .ex c env'
        | none => .st)
      | .st => .st) Q := k1
  cases ha : avs s1.env as with
  | none => rw [ha] at k1; exact k1.elim
  | some ps =>
    rw [ha] at k1
    refine ⟨ps, s1.G, fpC s1.Fp ks, call_in R1 d1 ha hK hd, by rw [List.length_map]; exact (d1.at_ ha).1, ?_⟩
    dsimp only at k1
    cases hc : C f ps with
    | st => rw [hc] at k1; exact k1.elim
    | ex c fin =>
      rw [hc] at k1
      dsimp only at k1
      cases hp : putB as fin s1.env with
      | none => rw [hp] at k1; exact k1.elim
      | some env3 =>
        rw [hp] at k1
        intro env' H' G' Fp' ho R' E'
        obtain ⟨R3, E3, _⟩ := call_out R1 d1 ha hK hd hp ho R' E'
        exact k1 H' G' _ R3 (Ext.trans2 E1' E3 (fun _ q => q) memR)
    | ok x fin =>
      rw [hc] at k1
      dsimp only at k1
      cases hp : putB as fin s1.env with
      | none => rw [hp] at k1; exact k1.elim
      | some env3 =>
        rw [hp] at k1
        dsimp only at k1
        rw [d1.noB, if_neg (by simp)] at k1
        intro env' v H' G' Fp' ho R' E' dv
        obtain ⟨R3, E3, dd⟩ := call_out R1 d1 ha hK hd hp ho R' E'
        exact k1 v H' G' _ R3 (Ext.trans2 E1' E3 (fun _ q => q) memR) (Dlv.back (dl := .own rm) E1' (dd _ _ _ dv))
end
end Ev

/-! Ev10: statements. -/
namespace Ev
open PySem PySem.Spec PyProof.Rows L2
def Kp (P : List Nat) (σ0 σ : L2.St) : Prop := ∀ j, j ∈ P → σ[j]? = σ0[j]?
def PoS (D : Dm) (W : WX) (B L : List Nat) (rm : Nat) (P : List Nat) (ms : List Nat) (σ0 : L2.St) (s0 : Sta) (Dn : Ends) (o : O) : Prop := match o with
  | .nx env => ∀ σ H G Fp, RelS D ms σ ⟨env, H, G, Fp⟩ → ExtA s0 ⟨env, H, G, Fp⟩ → Kp P σ0 σ → Dn.nx σ H
  | .rt x env => ∀ v σ H G Fp, RelS D B σ ⟨env, H, G, Fp⟩ → ExtA s0 ⟨env, H, G, Fp⟩ → Kp P σ0 σ → Dlv D B σ (.own rm) x v s0 ⟨env, H, G, Fp⟩ → Dn.rt v H
  | .bk env => ∀ σ H G Fp, RelS D L σ ⟨env, H, G, Fp⟩ → ExtA s0 ⟨env, H, G, Fp⟩ → Kp P σ0 σ → Dn.bk σ H
  | .ct env => ∀ σ H G Fp, RelS D L σ ⟨env, H, G, Fp⟩ → ExtA s0 ⟨env, H, G, Fp⟩ → Kp P σ0 σ → Dn.ct σ H
  | .ex k env => ∀ σ H G Fp, RelS D B σ ⟨env, H, G, Fp⟩ → ExtA s0 ⟨env, H, G, Fp⟩ → Kp P σ0 σ → W (.ref (D.xa k)) none σ H
  | .st => False
def RdS (D : Dm) (W : WX) (B L : List Nat) (rm : Nat) (P : List Nat) (ms ms' : List Nat) (ev : Env → O) : TS := fun Dn σ H =>
  ∃ env G Fp, RelS D ms σ ⟨env, H, G, Fp⟩ ∧ PoS D W B L rm P ms' σ ⟨env, H, G, Fp⟩ Dn (ev env)
section
variable (D : Dm) (X : Cx) (C : Calls) (W : WX) (B L : List Nat) (rm : Nat) (P : List Nat)
def SS (ms ms' : List Nat) (c : CS) (st : Stmt) : Prop := PS X st (RdS D W B L rm P ms ms' (exS C c))
def SSs (ms ms' : List Nat) (c : List CS) (st : List Stmt) : Prop := PSs X st (RdS D W B L rm P ms ms' (exSs C c))
end
/-- every owned slot stays so, or is given up -/
def dmOk (ms ms2 : List Nat) : Bool := decide (ms2.length ≤ ms.length) && (List.range ms.length).all fun i => gm ms2 i == gm ms i || gm ms2 i == 0
theorem dmOk_at {ms ms2 : List Nat} (h : dmOk ms ms2 = true) (i : Nat) : gm ms2 i = gm ms i ∨ gm ms2 i = 0 := by
  simp only [dmOk, Bool.and_eq_true, decide_eq_true_eq, List.all_eq_true, List.mem_range, Bool.or_eq_true, beq_iff_eq] at h
  by_cases hi : i < ms.length
  · exact h.2 i hi
  · right
    unfold gm
    rw [List.getD_eq_getElem?_getD, List.getElem?_eq_none (by omega)]
    rfl
section
variable {D : Dm} {X : Cx} {C : Calls} {W : WX} {B L : List Nat} {rm : Nat} {P : List Nat} {ms ms1 ms2 ms3 : List Nat} {M M1 M2 M3 : List Nat} {σ σ0 σ1 : L2.St} {s0 s1 s2 : Sta} {x y : PV} {v u : V} {dl dl1 dl2 dl3 : Dl} {a b c : CE} {ea eb ec tg : Expr} {pos p1 p2 : Pos} {st : Stmt} {Dn : Ends}
theorem ExtS.all_ {s s' : Sta} (E : ExtS M s s') : ExtA s s' := Ext.weak E fun _ _ => trivial
open Classical in
theorem Rel.dem {s : Sta} (R : RelS D ms σ s) (h : dmOk ms ms2 = true) : ∃ G' Fp', RelS D ms2 σ ⟨s.env, s.H, G', Fp'⟩ ∧ ExtA s ⟨s.env, s.H, G', Fp'⟩ := by
  have hh := dmOk_at h
  let G' : Hp := fun b => if ∃ i, gm ms2 i ≠ gm ms i ∧ b ∈ s.Fp i then s.H b else s.G b
  have gm' : ∀ b o, s.G b = some o → G' b = some o := fun b o e => by
    show (if _ then _ else _) = _
    split
    · exact R.sub b o e
    · exact e
  have gout : ∀ b, (∀ i, gm ms2 i ≠ gm ms i → b ∉ s.Fp i) → G' b = s.G b := fun b hb => if_neg fun ⟨i, h1, h2⟩ => hb i h1 h2
  have gin : ∀ i b, gm ms2 i ≠ gm ms i → b ∈ s.Fp i → G' b = s.H b := fun i b h1 h2 => if_pos ⟨i, h1, h2⟩
  refine ⟨G', fun i => if gm ms2 i = gm ms i then s.Fp i else [], ⟨fun i x q => ?_, fun i q => ?_, fun b o e => ?_, fun i b hb => ?_, fun i => ?_, fun i j b hb hb' => ?_, R.len⟩, ⟨fun b o e n => ⟨e, fun i hi => ?_, fun q => ?_⟩, fun _ _ _ _ h _ => absurd trivial h, gm', fun _ h => absurd trivial h⟩⟩
  · obtain ⟨v, e1, o⟩ := R.at_ i x q
    refine ⟨v, e1, ?_⟩
    dsimp only
    by_cases hi : gm ms2 i = gm ms i
    · rw [if_pos hi, hi]
      exact o.mono gm' fun _ _ _ e => e
    · rw [if_neg hi, (hh i).resolve_left hi]
      exact OwnR.zero.mpr ⟨rfl, o.dem gm' fun b hb o e => by rw [gin i b hi hb]; exact e⟩
  · dsimp only
    by_cases hi : gm ms2 i = gm ms i
    · rw [if_pos hi]; exact R.no i q
    · rw [if_neg hi]
  · have e : (if _ then _ else _) = _ := e
    split at e
    · exact e
    · exact R.sub b o e
  · dsimp only at hb ⊢
    by_cases hi : gm ms2 i = gm ms i
    · rw [if_pos hi] at hb
      rw [gout b fun j hj hb' => ?_]
      · exact R.dis i b hb
      · have := R.sep i j b hb hb'
        subst this
        exact hj hi
    · rw [if_neg hi] at hb; cases hb
  · dsimp only
    split
    · exact R.nd i
    · exact List.Pairwise.nil
  · dsimp only at hb hb'
    split at hb
    · split at hb'
      · exact R.sep i j b hb hb'
      · cases hb'
    · cases hb
  · dsimp only at hi
    split at hi
    · exact n i hi
    · cases hi
  · dsimp only
    rw [gout b fun i _ hb => n i hb]
    exact q
theorem Kp.refl : Kp P σ σ := fun _ _ => rfl
theorem Kp.trans {σ2 : L2.St} (a : Kp P σ0 σ1) (b : Kp P σ1 σ2) : Kp P σ0 σ2 := fun j h => (b j h).trans (a j h)
theorem Kp.set {i : Nat} {o : Option V} (h : i ∉ P) : Kp P σ (σ.set i o) := fun j hj => List.getElem?_set_ne fun z : i = j => h (by rw [z]; exact hj)
theorem PoS.go {o : O} (h : PoS D W B L rm P ms σ0 s0 Dn o) (E : ExtA s0 s1) (K : Kp P σ0 σ1) : PoS D W B L rm P ms σ1 s1 Dn o := by
  unfold PoS at h ⊢
  cases o with
  | nx env => exact fun σ H G Fp R E' K' => h σ H G Fp R (E.trans E') (K.trans K')
  | rt x env =>
    intro v σ H G Fp R E' K' d
    obtain ⟨F, t, nw⟩ := d
    refine h v σ H G Fp R (E.trans E') (K.trans K') ⟨F, t, fun b o e n => ?_⟩
    obtain ⟨e1, n1, _⟩ := E.far b o e n
    exact nw b o e1 n1
  | bk env => exact fun σ H G Fp R E' K' => h σ H G Fp R (E.trans E') (K.trans K')
  | ct env => exact fun σ H G Fp R E' K' => h σ H G Fp R (E.trans E') (K.trans K')
  | ex k env => exact fun σ H G Fp R E' K' => h σ H G Fp R (E.trans E') (K.trans K')
  | st => exact h
theorem PS.imp {t t' : TS} (p : PS X st t) (f : ∀ Dn σ H, t' Dn σ H → t Dn σ H) : PS X st t' := ⟨fun pins s σ H Dn I h => p.run pins s σ H Dn I (f Dn σ H h)⟩
theorem PSs.imp {st : List Stmt} {t t' : TS} (p : PSs X st t) (f : ∀ Dn σ H, t' Dn σ H → t Dn σ H) : PSs X st t' := ⟨fun pins s σ H Dn I h => p.run pins s σ H Dn I (f Dn σ H h)⟩
/-! ### blocks -/
theorem ss_nil : SSs D X C W B L rm P ms ms [] [] := PSs.imp pss_nil fun Dn σ H ⟨env, G, Fp, R, h⟩ => h σ H G Fp R Ext.refl Kp.refl
theorem PoS.then {o : O} {f : Env → O} (h : PoS D W B L rm P ms2 σ s0 Dn (o.then f)) :
    PoS D W B L rm P ms1 σ s0 { nx := RdS D W B L rm P ms1 ms2 f Dn, rt := Dn.rt, bk := Dn.bk, ct := Dn.ct } o := by
  cases o with
  | nx env => exact fun σ' H G Fp R E K => ⟨env, G, Fp, R, PoS.go (o := f env) h E K⟩
  | rt x env => exact h
  | bk env => exact h
  | ct env => exact h
  | ex k env => exact h
  | st => exact h
theorem ss_cons {cs : CS} {r : List CS} {sts : List Stmt} (h1 : SS D X C W B L rm P ms ms1 cs st) (h2 : SSs D X C W B L rm P ms1 ms2 r sts) : SSs D X C W B L rm P ms ms2 (cs :: r) (st :: sts) :=
  PSs.imp (pss_cons h1 h2) fun Dn σ H ⟨env, G, Fp, R, h⟩ => ⟨env, G, Fp, R, PoS.then (f := exSs C r) h⟩
theorem SSs.pre {cs : List CS} {sts : List Stmt} (h : SSs D X C W B L rm P ms1 ms2 cs sts) (hd : dmOk ms ms1 = true) : SSs D X C W B L rm P ms ms2 cs sts := PSs.imp h fun Dn σ H ⟨env, G, Fp, R, q⟩ => by
  obtain ⟨G', Fp', R', E'⟩ := Rel.dem R hd
  exact ⟨env, G', Fp', R', q.go E' Kp.refl⟩
theorem SS.pre {cs : CS} (h : SS D X C W B L rm P ms1 ms2 cs st) (hd : dmOk ms ms1 = true) : SS D X C W B L rm P ms ms2 cs st := PS.imp h fun Dn σ H ⟨env, G, Fp, R, q⟩ => by
  obtain ⟨G', Fp', R', E'⟩ := Rel.dem R hd
  exact ⟨env, G', Fp', R', q.go E' Kp.refl⟩
theorem PoS.post {o : O} (h : PoS D W B L rm P ms2 σ s0 Dn o) (hd : dmOk ms1 ms2 = true) : PoS D W B L rm P ms1 σ s0 Dn o := by
  cases o with
  | nx env =>
    intro σ' H G Fp R E K
    obtain ⟨G', Fp', R', E'⟩ := Rel.dem R hd
    exact h σ' H G' Fp' R' (E.trans E') K
  | rt x env => exact h
  | bk env => exact h
  | ct env => exact h
  | ex k env => exact h
  | st => exact h
theorem SSs.post {cs : List CS} {sts : List Stmt} (h : SSs D X C W B L rm P ms ms1 cs sts) (hd : dmOk ms1 ms2 = true) : SSs D X C W B L rm P ms ms2 cs sts := PSs.imp h fun Dn σ H ⟨env, G, Fp, R, q⟩ => ⟨env, G, Fp, R, q.post hd⟩
/-- an expression within a statement -/
theorem PoS.expr {α β : Type} {del : L2.St → α → β → Sta → Sta → Prop} {ev : Env → Ev.R α} {f : α → Env → O} {H G : Hp} {Fp : Fps} {env : Env} {T : β → Hp → Prop} (h : PoS D W B L rm P ms2 σ ⟨env, H, G, Fp⟩ Dn ((ev env).then f)) (R : RelS D ms σ ⟨env, H, G, Fp⟩) (hB : dmOk ms B = true)
    (k : ∀ a b s1, RelS D ms σ s1 → ExtS M ⟨env, H, G, Fp⟩ s1 → del σ a b ⟨env, H, G, Fp⟩ s1 → PoS D W B L rm P ms2 σ ⟨env, H, G, Fp⟩ Dn (f a s1.env) → T b s1.H) : Rd D W ms M del ev σ H T := by
  refine ⟨env, G, Fp, R, ?_⟩
  unfold PoA
  cases e : ev env with
  | ok a e1 =>
    intro b H' G' Fp' R' E' d
    rw [e] at h
    exact k a b ⟨e1, H', G', Fp'⟩ R' E' d h
  | ex c e1 =>
    intro H' G' Fp' R' E'
    rw [e] at h
    obtain ⟨G2, Fp2, R2, E2⟩ := Rel.dem R' hB
    exact h σ H' G2 Fp2 R2 (E'.all_.trans E2) Kp.refl
  | st => rw [e] at h; exact h
theorem ss_ex (ha : SE D X C W ms M dl a ea) (hB : dmOk ms B = true) (hsw : swapsWith ea none pos.line X.env = pure false) : SS D X C W B L rm P ms ms (.ex a) (.Expr ea pos) :=
  PS.imp (ps_expr ha hsw) fun Dn σ H ⟨env, G, Fp, R, h⟩ => PoS.expr (ev := evE C a) (del := fun σ => Dlv D ms σ dl) (f := fun _ e1 => O.nx e1) h R hB fun x vx s1 R1 E1 d1 k1 => k1 σ _ _ _ R1 E1.all_ Kp.refl
/-! ### slots -/
theorem gm_set {ms : List Nat} {i n j : Nat} (hi : i < ms.length) : gm (ms.set i n) j = if j = i then n else gm ms j := by
  unfold gm
  rw [List.getD_eq_getElem?_getD, List.getElem?_set]
  by_cases h : i = j
  · subst h
    rw [if_pos rfl, if_pos hi, if_pos rfl]
    rfl
  · rw [if_neg h, if_neg (fun z => h z.symm), List.getD_eq_getElem?_getD]
theorem Rel.setOwn {s : Sta} {i n : Nat} {F : List Addr} (R : RelS D ms σ s) (hi : i < ms.length) (t : Tmp D n x v s.H s.G s.Fp F) (hl : i < s.env.length) :
    RelS D (ms.set i n) (σ.set i (some v)) ⟨s.env.set i (some x), s.H, s.G, fun j => if j = i then F else s.Fp j⟩ ∧ ∀ s0, ExtA s0 s → New s0.H s0.Fp F → ExtA s0 ⟨s.env.set i (some x), s.H, s.G, fun j => if j = i then F else s.Fp j⟩ := by
  refine ⟨⟨fun j y q => ?_, fun j q => ?_, R.sub, fun j b hb => ?_, fun j => ?_, fun j j' b hb hb' => ?_, by simpa using R.len⟩, fun s0 E nw => ⟨fun b o e nb => ?_, fun _ _ _ _ h _ => absurd trivial h, E.mono, fun _ h => absurd trivial h⟩⟩
  · dsimp only at q ⊢
    rw [getV_set] at q
    rw [gm_set hi]
    by_cases hj : j = i
    · subst hj
      rw [if_pos ⟨rfl, hl⟩] at q
      cases q
      rw [if_pos rfl, if_pos rfl]
      exact ⟨v, List.getElem?_set_self (by rw [← R.len]; exact hl), t.own⟩
    · rw [if_neg (fun z => hj z.1.symm)] at q
      rw [if_neg hj, if_neg hj]
      obtain ⟨w, e1, o⟩ := R.at_ j y q
      exact ⟨w, by rw [List.getElem?_set_ne fun z => hj z.symm]; exact e1, o⟩
  · dsimp only at q ⊢
    rw [getV_set] at q
    by_cases hj : j = i
    · subst hj
      rw [if_pos ⟨rfl, hl⟩] at q
      cases q
    · rw [if_neg (fun z => hj z.1.symm)] at q
      rw [if_neg hj]
      exact R.no j q
  · dsimp only at hb
    by_cases hj : j = i
    · rw [if_pos hj] at hb; exact (t.dis b hb).1
    · rw [if_neg hj] at hb; exact R.dis j b hb
  · dsimp only
    split
    · exact t.nd
    · exact R.nd j
  · dsimp only at hb hb'
    by_cases hj : j = i
    · by_cases hj' : j' = i
      · rw [hj, hj']
      · rw [if_pos hj] at hb
        rw [if_neg hj'] at hb'
        exact absurd hb' ((t.dis b hb).2 j')
    · rw [if_neg hj] at hb
      by_cases hj' : j' = i
      · rw [if_pos hj'] at hb'
        exact absurd hb ((t.dis b hb').2 j)
      · rw [if_neg hj'] at hb'
        exact R.sep j j' b hb hb'
  · obtain ⟨e1, n1, g1⟩ := E.far b o e nb
    refine ⟨e1, fun j hj => ?_, g1⟩
    dsimp only at hj
    by_cases h : j = i
    · rw [if_pos h] at hj; exact nw b o e nb hj
    · rw [if_neg h] at hj; exact n1 j hj
theorem Rel.put {s : Sta} {i n : Nat} {F : List Addr} (R : RelS D ms σ s) (hi : i < ms.length) (t : Tmp D n x v s.H s.G s.Fp F) :
    ∃ Fp', RelS D (ms.set i n) (σ.set i (some v)) ⟨s.env.set i (some x), s.H, s.G, Fp'⟩ ∧ ∀ s0, ExtA s0 s → New s0.H s0.Fp F → ExtA s0 ⟨s.env.set i (some x), s.H, s.G, Fp'⟩ := by
  by_cases hl : i < s.env.length
  · obtain ⟨h1, h2⟩ := Rel.setOwn R hi t hl
    exact ⟨_, h1, h2⟩
  · have e1 : s.env.set i (some x) = s.env := List.set_eq_of_length_le (by omega)
    have e2 : σ.set i (some v) = σ := List.set_eq_of_length_le (by rw [← R.len]; omega)
    rw [e1, e2]
    refine ⟨s.Fp, ⟨fun j y q => ?_, R.no, R.sub, R.dis, R.nd, R.sep, R.len⟩, fun s0 E _ => E⟩
    have : j ≠ i := fun z => hl (z ▸ getV_lt q)
    rw [gm_set hi, if_neg this]
    exact R.at_ j y q
theorem tAsg_name {i n : Nat} {e : CE} {te : TE} {H : Hp} (hi : i < ms.length) (hP : i ∉ P) (hB : dmOk ms B = true)
    (rd : ∀ Q, Rd D W ms M (fun σ => Dlv D ms σ (.own n)) (evE C e) σ H Q → te σ H Q) (h : RdS D W B L rm P ms (ms.set i n) (exS C (.set i e)) Dn σ H) : tAsg te (gName i) Dn σ H := by
  obtain ⟨env, G, Fp, R, h⟩ := h
  refine rd _ (PoS.expr (ev := evE C e) (del := fun σ => Dlv D ms σ (.own n)) (f := fun v e1 => O.nx (e1.set i (some v))) h R hB fun x vx s1 R1 E1 d1 k1 => ?_)
  obtain ⟨F, t, nw⟩ := d1
  obtain ⟨Fp2, R2, E2⟩ := Rel.put R1 hi t
  exact k1 _ _ _ _ R2 (E2 _ E1.all_ nw) (Kp.set hP)
/-- what a name of the def is told by -/
structure Sl (X : Cx) (i : Nat) (nm : Str) : Prop where
  N : X.N[i]? = some nm
  loc : Loc X.env.scope nm
  fn : X.fn nm = true ∨ X.env.scope.names.lookup nm = some .local
theorem ss_set {i n : Nat} {nm : Str} (hnd : X.N.Nodup) (hs : Sl X i nm) (hi : i < ms.length) (hP : i ∉ P) (hB : dmOk ms B = true) (ha : SE D X C W ms M (.own n) a ea) (hsw : swapsWith ea (some (.Name nm p1)) pos.line X.env = pure false) :
    SS D X C W B L rm P ms (ms.set i n) (.set i a) (.Assign [.Name nm p1] ea pos) :=
  PS.imp (ps_set hnd hs.N hs.loc ha hsw hs.fn) fun Dn σ H h => tAsg_name (M := M) hi hP hB (fun Q q => q) h
theorem ss_setLc {i : Nat} {nm : Str} {it : CI} {iter elt : Expr} {eifs : List Expr} {scope : Scope} {ow : List (Str × Nat)} {os : List Nat} {t : Ev.TG} {ifs : Option CE} {d : Nat} (hc : X.calm = true) (hnd : X.N.Nodup) (hN : X.N[i]? = some nm) (hl : X.env.scope.names.lookup nm = some .local) (hi : i < ms.length) (hP : i ∉ P) (hB : dmOk ms B = true)
    (hsw : swapsWith (.ListComp elt [⟨tg, iter, eifs, 0⟩] scope pos) (some (.Name nm p1)) p2.line X.env = pure true)
    (ho : ow.map (fun x => x.snd) = os) (hit : SI D X C W ms M1 it tg iter) (hb : BlkOk X.N X.env.scope scope ow)
    (hg : ∀ (s : Shared) (H : Hp) (Ca : Addr) (cl : List (Str × Addr)) (fp : List Addr), SG D (X.blk s H scope (compEnvC scope cl Ca X.env) fp) ms t tg)
    (ht : ∀ (s : Shared) (H : Hp) (Ca : Addr) (cl : List (Str × Addr)) (fp : List Addr), SC D (X.blk s H scope (compEnvC scope cl Ca X.env) fp) C WF ms M2 ifs eifs)
    (he : ∀ (s : Shared) (H : Hp) (Ca : Addr) (cl : List (Str × Addr)) (fp : List Addr), SE D (X.blk s H scope (compEnvC scope cl Ca X.env) fp) C WF ms M3 .sh c elt)
    (h0 : ∀ i, i ∈ os → gm ms i = 0) (htg : ∀ i, i ∈ tgs t → i ∈ os) (hf : ∀ x, foldedSetIterable iter X.env x = pure x) :
    SS D X C W B L rm P ms (ms.set i 1) (.set i (.cp d os t it ifs c)) (.Assign [.Name nm p1] (.ListComp elt [⟨tg, iter, eifs, 0⟩] scope pos) p2) := by
  subst ho
  exact PS.imp (ps_setLc hc hnd hN hl hsw hit hb hg ht he hf) fun Dn σ H h => tAsg_name (M := M1 ++ (M2 ++ M3)) hi hP hB (fun Q q => cp_read h0 htg q) h
/-- a target that is not a single name -/
theorem ss_setT {is : List Nat} (hg : SG D X ms (.tp is) tg) (hP : ∀ i, i ∈ is → i ∉ P) (hB : dmOk ms B = true) (ha : SE D X C W ms M .sh a ea)
    (h1 : swapsWithSole [tg] ea pos.line X.env = pure false) (h2 : swappedStores [tg] ea X.env = pure none) (h3 : List.map (fun x => x.snd) (assignEach [tg] X.env) = [assign tg X.env]) :
    SS D X C W B L rm P ms ms (.setT is a) (.Assign [tg] ea pos) := by
  refine PS.imp (ps_asg ha hg h1 h2 h3) fun Dn σ H ⟨env, G, Fp, R, h⟩ => ?_
  refine PoS.expr (ev := evE C a) (del := fun σ => Dlv D ms σ .sh) (f := fun v e1 => match setTG (.tp is) v e1 with | some e2 => O.nx e2 | none => .st) h R hB fun x vx s1 R1 E1 d1 k1 => ?_
  cases q : setTG (.tp is) x s1.env with
  | none => rw [q] at k1; exact k1.elim
  | some e2 =>
    rw [q] at k1
    refine ⟨x, s1.env, s1.G, s1.Fp, e2, R1, d1, q, fun σ' R' hσ => k1 σ' _ _ _ R' ⟨E1.all_.far, fun _ _ _ _ h _ => absurd trivial h, E1.mono, fun _ h => absurd trivial h⟩ fun j hj => (hσ j fun z => hP j z hj).1⟩
theorem ss_par {i j : Nat} {nm nm2 : Str} {kt k2 : Nat} {px py pt pt2 : Pos} (hc : X.calm = true) (hnd : X.N.Nodup) (hi : X.N[i]? = some nm) (hj : X.N[j]? = some nm2) (hne : i ≠ j) (hli : X.env.scope.names.lookup nm = some .local) (hlj : X.env.scope.names.lookup nm2 = some .local) (h0 : gm ms i = 0) (h0' : gm ms j = 0) (hP : i ∉ P) (hP' : j ∉ P) (hB : dmOk ms B = true)
    (hs : SAs D X C W ms M [a, b] [ea, eb]) (h1 : swappedStores [.Tuple [.Name nm px, .Name nm2 py] kt pt] (.Tuple [ea, eb] k2 pt2) X.env = pure (some [nm, nm2])) (h2 : swapsWithSole [.Tuple [.Name nm px, .Name nm2 py] kt pt] (.Tuple [ea, eb] k2 pt2) pos.line X.env = pure false) :
    SS D X C W B L rm P ms ms (.par [i, j] [a, b]) (.Assign [.Tuple [.Name nm px, .Name nm2 py] kt pt] (.Tuple [ea, eb] k2 pt2) pos) := by
  refine PS.imp (ps_par hc hnd hi hj hne hli hlj hs h1 h2) fun Dn σ H ⟨env, G, Fp, R, h⟩ => ?_
  refine PoS.expr (ev := evEs C [a, b]) (del := fun _ xs vs _ s => RepVs D s.G xs vs) (f := fun vs e1 => match setMany [i, j] vs e1 with | some e2 => O.nx e2 | none => .st) h R hB fun xs vs s1 R1 E1 d1 k1 => ?_
  cases q : setMany [i, j] xs s1.env with
  | none => rw [q] at k1; exact k1.elim
  | some e2 =>
    rw [q] at k1
    match xs, q, d1 with
    | [x, y], q, d1 =>
      cases q
      obtain ⟨v, r, rfl, r1, w, r', rfl, r2, r3⟩ := d1
      cases r3
      refine ⟨v, w, rfl, k1 _ _ _ _ ((R1.setSh h0 r1).setSh h0' r2) ⟨E1.all_.far, fun _ _ _ _ h _ => absurd trivial h, E1.mono, fun _ h => absurd trivial h⟩ ((Kp.set hP).trans (Kp.set hP'))⟩
    | [], q, _ => cases q
    | [_], q, _ => cases q
    | _ :: _ :: _ :: _, q, _ => cases q
theorem ss_par3 {i j l : Nat} {nm nm2 nm3 : Str} {kt k2 : Nat} {px py pz pt pt2 : Pos} (hc : X.calm = true) (hnd : X.N.Nodup) (hi : X.N[i]? = some nm) (hj : X.N[j]? = some nm2) (hl : X.N[l]? = some nm3) (hne : i ≠ j) (hne2 : i ≠ l) (hne3 : j ≠ l) (hli : X.env.scope.names.lookup nm = some .local) (hlj : X.env.scope.names.lookup nm2 = some .local) (hll : X.env.scope.names.lookup nm3 = some .local) (h0 : gm ms i = 0) (h0' : gm ms j = 0) (h0l : gm ms l = 0) (hP : i ∉ P) (hP' : j ∉ P) (hPl : l ∉ P) (hB : dmOk ms B = true)
    (hs : SAs D X C W ms M [a, b, c] [ea, eb, ec]) (h1 : swappedStores [.Tuple [.Name nm px, .Name nm2 py, .Name nm3 pz] kt pt] (.Tuple [ea, eb, ec] k2 pt2) X.env = pure (some [nm, nm2, nm3])) (h2 : swapsWithSole [.Tuple [.Name nm px, .Name nm2 py, .Name nm3 pz] kt pt] (.Tuple [ea, eb, ec] k2 pt2) pos.line X.env = pure false) :
    SS D X C W B L rm P ms ms (.par [i, j, l] [a, b, c]) (.Assign [.Tuple [.Name nm px, .Name nm2 py, .Name nm3 pz] kt pt] (.Tuple [ea, eb, ec] k2 pt2) pos) := by
  refine PS.imp (ps_par3 hc hnd hi hj hl hne hne2 hne3 hli hlj hll hs h1 h2) fun Dn σ H ⟨env, G, Fp, R, h⟩ => ?_
  refine PoS.expr (ev := evEs C [a, b, c]) (del := fun _ xs vs _ s => RepVs D s.G xs vs) (f := fun vs e1 => match setMany [i, j, l] vs e1 with | some e2 => O.nx e2 | none => .st) h R hB fun xs vs s1 R1 E1 d1 k1 => ?_
  cases q : setMany [i, j, l] xs s1.env with
  | none => rw [q] at k1; exact k1.elim
  | some e2 =>
    rw [q] at k1
    match xs, q, d1 with
    | [x, y, z], q, d1 =>
      cases q
      obtain ⟨v, r, rfl, r1, w, r', rfl, r2, w2, r'', rfl, r3, r4⟩ := d1
      cases r4
      refine ⟨v, w, w2, rfl, k1 _ _ _ _ (((R1.setSh h0 r1).setSh h0' r2).setSh h0l r3) ⟨E1.all_.far, fun _ _ _ _ h _ => absurd trivial h, E1.mono, fun _ h => absurd trivial h⟩ (((Kp.set hP).trans (Kp.set hP')).trans (Kp.set hPl))⟩
    | [], q, _ => cases q
    | [_], q, _ => cases q
    | [_, _], q, _ => cases q
    | _ :: _ :: _ :: _ :: _, q, _ => cases q
theorem ss_aug {i : Nat} {op : BO} {eo : Operator} {nm : Str} (ho : opOf op = eo) (hop : op = .add ∨ op = .sub) (hnd : X.N.Nodup) (hs : Sl X i nm) (h0 : gm ms i = 0) (hP : i ∉ P) (hB : dmOk ms B = true) (ha : SE D X C W ms M dl a ea) (h1 : opOk dl [] = true) :
    SS D X C W B L rm P ms ms (.aug i op a) (.AugAssign (.Name nm p1) eo ea pos) := by
  subst ho
  have key : PS X (.AugAssign (.Name nm p1) (opOf op) ea pos) (tAug i (Rd D W ms M (fun σ => Dlv D ms σ dl) (evE C a)) (fun x y H Q => ∃ i j k, x = .int i ∧ y = .int j ∧ aop op (.int i) (.int j) = some (.int k) ∧ Q (.int k) H)) := by
    refine ps_aug hnd hs.N hs.loc ha ?_ hs.fn
    intro pins s σ H x y v u Q I rx ry ⟨i, j, k, e1, e2, e3, q⟩
    rcases hop with rfl | rfl
    · cases e3
      exact ip_add pins s σ H x y v u Q I rx ry ⟨i, j, e1, e2, q⟩
    · cases e3
      exact ip_sub pins s σ H x y v u Q I rx ry ⟨i, j, e1, e2, q⟩
  refine PS.imp key fun Dn σ H ⟨env, G, Fp, R, h⟩ => ?_
  have h : PoS D W B L rm P ms σ ⟨env, H, G, Fp⟩ Dn (match getV env i with
    | some x => (evE C a env).then fun v e1 => match aop op x v with
      | some y => .nx (e1.set i (some y))
      | none => .st
    | none => .st) := h
  cases q : getV env i with
  | none => rw [q] at h; exact h.elim
  | some x =>
    rw [q] at h
    obtain ⟨vx, e1, o⟩ := R.at_ i x q
    refine ⟨vx, e1, PoS.expr (ev := evE C a) (del := fun σ => Dlv D ms σ dl) (f := fun v e1 => match aop op x v with
      | some y => .nx (e1.set i (some y))
      | none => .st) h R hB fun y vy s1 R1 E1 d1 k1 => ?_⟩
    cases q' : aop op x y with
    | none => rw [q'] at k1; exact k1.elim
    | some z =>
      rw [q'] at k1
      have hh : ∃ i j k, x = .int i ∧ y = .int j ∧ z = .int k := by
        cases op <;> cases x <;> cases y <;> simp [aop] at q' <;> exact ⟨_, _, _, rfl, rfl, q'.symm⟩
      obtain ⟨m, n, k, rfl, rfl, rfl⟩ := hh
      have := (d1.here h1 R1).int
      subst this
      rw [OwnR.flat rfl] at o
      have e2 : vx = .int m := o.2
      subst e2
      exact ⟨m, n, k, rfl, rfl, q', k1 _ _ _ _ (R1.setSh h0 rfl) ⟨E1.all_.far, fun _ _ _ _ h _ => absurd trivial h, E1.mono, fun _ h => absurd trivial h⟩ (Kp.set hP)⟩
/-! ### ways out, choices -/
theorem ss_ret {n : Nat} (hr : n = rm) (ha : SE D X C W ms M (.own n) a ea) (hB : dmOk ms B = true) : SS D X C W B L rm P ms ms1 (.ret a) (.Return (some ea) pos) := by
  subst hr
  refine PS.imp (ps_ret ha) fun Dn σ H ⟨env, G, Fp, R, h⟩ => ?_
  refine PoS.expr (ev := evE C a) (del := fun σ => Dlv D ms σ (.own n)) (f := fun v e1 => O.rt v e1) h R hB fun x vx s1 R1 E1 d1 k1 => ?_
  obtain ⟨F, t, nw⟩ := d1
  obtain ⟨G2, Fp2, R2, E2⟩ := Rel.dem R1 hB
  exact k1 vx σ _ _ _ R2 (E1.all_.trans E2) Kp.refl ⟨F, t.carry E2, nw⟩
theorem ss_retN (hB : dmOk ms B = true) : SS D X C W B L rm P ms ms1 .retN (.Return none pos) := PS.imp ps_retN fun Dn σ H ⟨env, G, Fp, R, h⟩ => by
  obtain ⟨G2, Fp2, R2, E2⟩ := Rel.dem R hB
  exact h .non σ _ _ _ R2 E2 Kp.refl ⟨[], Tmp.flat rfl rfl, fun _ _ _ _ => List.not_mem_nil⟩
theorem ss_pass : SS D X C W B L rm P ms ms .pass (.Pass pos) := PS.imp ps_pass fun Dn σ H ⟨env, G, Fp, R, h⟩ => h σ H G Fp R Ext.refl Kp.refl
theorem ss_brk (hL : dmOk ms L = true) : SS D X C W B L rm P ms ms1 .brk (.Break pos) := PS.imp ps_break fun Dn σ H ⟨env, G, Fp, R, h⟩ => by
  obtain ⟨G2, Fp2, R2, E2⟩ := Rel.dem R hL
  exact h σ _ _ _ R2 E2 Kp.refl
theorem ss_cnt (hL : dmOk ms L = true) : SS D X C W B L rm P ms ms1 .cnt (.Continue pos) := PS.imp ps_continue fun Dn σ H ⟨env, G, Fp, R, h⟩ => by
  obtain ⟨G2, Fp2, R2, E2⟩ := Rel.dem R hL
  exact h σ _ _ _ R2 E2 Kp.refl
theorem ss_ite {ca cb : List CS} {sa sb : List Stmt} (hc : ST D X C W ms M c ec) (ha : SSs D X C W B L rm P ms ms1 ca sa) (hb : SSs D X C W B L rm P ms ms1 cb sb) (hB : dmOk ms B = true) : SS D X C W B L rm P ms ms1 (.ite c ca cb) (.If ec sa sb pos) := by
  refine PS.imp (ps_if hc ha hb) fun Dn σ H ⟨env, G, Fp, R, h⟩ => ?_
  refine PoS.expr (ev := fun env => tst (evE C c env)) (del := fun _ (a b : Bool) _ _ => a = b) (f := fun t e1 => if t then exSs C ca e1 else exSs C cb e1) h R hB fun t t' s1 R1 E1 d1 k1 => ?_
  subst d1
  cases t with
  | true => exact ⟨s1.env, s1.G, s1.Fp, R1, PoS.go (o := exSs C ca s1.env) k1 E1.all_ Kp.refl⟩
  | false => exact ⟨s1.env, s1.G, s1.Fp, R1, PoS.go (o := exSs C cb s1.env) k1 E1.all_ Kp.refl⟩
theorem ss_raise {k : Nat} {e : Expr} (hc : X.calm = true) (tk : Takes X W) (hm : PMk X e fun _ H Q => Q (.ref (D.xa k)) none H) (hB : dmOk ms B = true) : SS D X C W B L rm P ms ms1 (.raise k) (.Raise (some e) none pos) := PS.imp (ps_raise hc tk hm) fun Dn σ H ⟨env, G, Fp, R, h⟩ => by
  obtain ⟨G2, Fp2, R2, E2⟩ := Rel.dem R hB
  exact h σ _ _ _ R2 E2 Kp.refl
/-! ### loops -/
theorem ss_fr {t : Ev.TG} {it : CI} {iter : Expr} {cb : List CS} {sb : List Stmt} (po : PassesOwn (model X.prog X.w) X.A X.env X.xe) (hc : X.calm = true) (hi : SI D X C W ms M it tg iter) (hg : SG D X ms t tg) (hb : SSs D X C W B ms rm P ms ms cb sb) (hB : dmOk ms B = true) (hP : ∀ i, i ∈ tgs t → i ∉ P) (hf : ∀ x, foldedSetIterable iter X.env x = pure x) :
    SS D X C W B L rm P ms ms (.fr t it cb) (.For tg iter sb [] pos) := by
  refine PS.imp (ps_for po hc hi hg hb hf) fun Dn σ H ⟨env, G, Fp, R, h⟩ => ?_
  refine PoS.expr (ev := evI C it) (del := fun _ xs J _ s => ItOk D s.G xs J) (f := fun xs e1 => forL (fun x e2 => match setTG t x e2 with
    | some e3 => exSs C cb e3
    | none => .st) xs e1) h R hB fun xs J s1 R1 E1 d1 k1 => ?_
  refine ⟨fun i m σ H => m = xs.length - i ∧ i ≤ xs.length ∧ ∃ env G Fp, RelS D ms σ ⟨env, H, G, Fp⟩ ∧ (∀ b o, s1.G b = some o → G b = some o) ∧ PoS D W B L rm P ms σ ⟨env, H, G, Fp⟩ Dn (forL _ (xs.drop i) env), ⟨_, rfl, Nat.zero_le _, s1.env, s1.G, s1.Fp, R1, fun _ _ e => e, k1.go E1.all_ Kp.refl⟩, fun i m σ H ⟨hm, hi, env, G, Fp, R, mono, hp⟩ => ?_⟩
  obtain ⟨go, stp, yl⟩ := d1 H i fun b o e => R.sub b o (mono b o e)
  by_cases hlt : i < xs.length
  · right
    refine ⟨go hlt, fun σ H => ∃ env G Fp, RelS D ms σ ⟨env, H, G, Fp⟩ ∧ (∀ b o, s1.G b = some o → G b = some o) ∧ PoS D W B L rm P ms σ ⟨env, H, G, Fp⟩ Dn (forL _ (xs.drop (i + 1)) env), fun σ' H' q => ⟨xs.length - (i + 1), by omega, rfl, by omega, q⟩, fun x H' hy => ?_⟩
    obtain ⟨hH, pv, hpv, rpv⟩ := yl x H' hy hlt
    rw [hH]
    have hx : xs.drop i = pv :: xs.drop (i + 1) := by
      rw [List.drop_eq_getElem_cons hlt]
      congr 1
      rw [List.getElem?_eq_getElem hlt] at hpv
      exact Option.some.inj hpv
    rw [hx] at hp
    have hp : PoS D W B L rm P ms σ ⟨env, H, G, Fp⟩ Dn (match (match setTG t pv env with
      | some e3 => exSs C cb e3
      | none => .st) with
      | .nx e => forL (fun x e2 => match setTG t x e2 with
        | some e3 => exSs C cb e3
        | none => .st) (xs.drop (i + 1)) e
      | .ct e => forL (fun x e2 => match setTG t x e2 with
        | some e3 => exSs C cb e3
        | none => .st) (xs.drop (i + 1)) e
      | .bk e => .nx e
      | .rt v e => .rt v e
      | .ex c e => .ex c e
      | .st => .st) := hp
    cases q3 : setTG t pv env with
    | none => rw [q3] at hp; exact hp.elim
    | some e3 =>
      rw [q3] at hp
      refine ⟨pv, env, G, Fp, e3, R, RepV.mono mono rpv, q3, fun σ' R3 hσ => ⟨e3, G, Fp, R3, ?_⟩⟩
      have E3 : ExtA ⟨env, H, G, Fp⟩ ⟨e3, H, G, Fp⟩ := ⟨fun b o e n => ⟨e, n, fun q => q⟩, fun _ _ _ _ h _ => absurd trivial h, fun _ _ e => e, fun _ h => absurd trivial h⟩
      have K3 : Kp P σ σ' := fun j hj => (hσ j fun z => hP j z hj).1
      dsimp only at hp
      cases q4 : exSs C cb e3 with
      | nx e => rw [q4] at hp; exact fun σ2 H2 G2 Fp2 R2 E2 K2 => ⟨e, G2, Fp2, R2, fun b o q => E2.mono b o (mono b o q), PoS.go (o := forL _ (xs.drop (i + 1)) e) hp (E3.trans E2) (K3.trans K2)⟩
      | ct e => rw [q4] at hp; exact fun σ2 H2 G2 Fp2 R2 E2 K2 => ⟨e, G2, Fp2, R2, fun b o q => E2.mono b o (mono b o q), PoS.go (o := forL _ (xs.drop (i + 1)) e) hp (E3.trans E2) (K3.trans K2)⟩
      | bk e => rw [q4] at hp; exact fun σ2 H2 G2 Fp2 R2 E2 K2 => hp σ2 H2 G2 Fp2 R2 (E3.trans E2) (K3.trans K2)
      | rt v e => rw [q4] at hp; exact PoS.go (o := O.rt v e) (ms := ms) (Dn := { nx := _, rt := Dn.rt, bk := Dn.nx, ct := _ }) hp E3 K3
      | ex c e => rw [q4] at hp; exact PoS.go (o := O.ex c e) (ms := ms) (Dn := { nx := _, rt := Dn.rt, bk := Dn.nx, ct := _ }) hp E3 K3
      | st => rw [q4] at hp; exact hp.elim
  · left
    have hi' : i = xs.length := by omega
    refine ⟨stp (by omega), ?_⟩
    rw [hi', List.drop_length] at hp
    exact hp σ H G Fp R Ext.refl Kp.refl
theorem ss_whl {cb : List CS} {sb : List Stmt} (po : PassesOwn (model X.prog X.w) X.A X.env X.xe) (hc : ST D X C W ms M c ec) (hb : SSs D X C W B ms rm P ms ms cb sb) (hB : dmOk ms B = true) : SS D X C W B L rm P ms ms (.whl c cb) (.While ec sb [] pos) := by
  refine PS.imp (ps_while po hc hb) fun Dn σ H ⟨env, G, Fp, R, h⟩ => ?_
  refine ⟨fun m σ H => ∃ env G Fp, RelS D ms σ ⟨env, H, G, Fp⟩ ∧ PoS D W B L rm P ms σ ⟨env, H, G, Fp⟩ Dn (whileN (fun e1 => evT C c e1) (fun e1 => exSs C cb e1) m env), ⟨FUEL, env, G, Fp, R, h⟩, fun m σ H ⟨env, G, Fp, R, h⟩ => ?_⟩
  cases m with
  | zero => exact h.elim
  | succ m =>
    have h : PoS D W B L rm P ms σ ⟨env, H, G, Fp⟩ Dn ((tst (evE C c env)).then fun t e1 => if t then (match exSs C cb e1 with
      | .nx e => whileN (fun e1 => evT C c e1) (fun e1 => exSs C cb e1) m e
      | .ct e => whileN (fun e1 => evT C c e1) (fun e1 => exSs C cb e1) m e
      | .bk e => .nx e
      | .rt v e => .rt v e
      | .ex x e => .ex x e
      | .st => .st) else .nx e1) := by
      have e : whileN (fun e1 => evT C c e1) (fun e1 => exSs C cb e1) (m + 1) env = ((tst (evE C c env)).then fun t e1 => if t then (match exSs C cb e1 with
        | .nx e => whileN (fun e1 => evT C c e1) (fun e1 => exSs C cb e1) m e
        | .ct e => whileN (fun e1 => evT C c e1) (fun e1 => exSs C cb e1) m e
        | .bk e => .nx e
        | .rt v e => .rt v e
        | .ex x e => .ex x e
        | .st => .st) else .nx e1) := by
        rw [whileN]
        dsimp only [evT]
        cases tst (evE C c env) with
        | ok t e1 => cases t <;> rfl
        | ex x e => rfl
        | st => rfl
      rw [e] at h
      exact h
    refine PoS.expr (ev := fun env => tst (evE C c env)) (del := fun _ (a b : Bool) _ _ => a = b) h R hB fun t t' s1 R1 E1 d1 k1 => ?_
    subst d1
    cases t with
    | false => exact k1 σ _ _ _ R1 E1.all_ Kp.refl
    | true =>
      rw [if_pos rfl] at k1 ⊢
      refine ⟨fun σ H => ∃ env G Fp, RelS D ms σ ⟨env, H, G, Fp⟩ ∧ PoS D W B L rm P ms σ ⟨env, H, G, Fp⟩ Dn (whileN (fun e1 => evT C c e1) (fun e1 => exSs C cb e1) m env), fun σ' H' q => ⟨m, Nat.lt_succ_self m, q⟩, s1.env, s1.G, s1.Fp, R1, ?_⟩
      have k1 := k1.go E1.all_ Kp.refl (s1 := s1)
      cases q4 : exSs C cb s1.env with
      | nx e => rw [q4] at k1; exact fun σ2 H2 G2 Fp2 R2 E2 K2 => ⟨e, G2, Fp2, R2, k1.go E2 K2⟩
      | ct e => rw [q4] at k1; exact fun σ2 H2 G2 Fp2 R2 E2 K2 => ⟨e, G2, Fp2, R2, k1.go E2 K2⟩
      | bk e => rw [q4] at k1; exact fun σ2 H2 G2 Fp2 R2 E2 K2 => k1 σ2 H2 G2 Fp2 R2 E2 K2
      | rt v e => rw [q4] at k1; exact k1
      | ex c e => rw [q4] at k1; exact k1
      | st => rw [q4] at k1; exact k1.elim
end
end Ev

/-! Ev11: lists that are changed, try, defs. -/
namespace Ev
open PySem PySem.Spec PyProof.Rows L2
section
variable {D : Dm} {X : Cx} {C : Calls} {W : WX} {B L : List Nat} {rm : Nat} {P : List Nat} {ms ms1 ms2 ms3 : List Nat} {M M1 M2 M3 : List Nat} {σ σ0 σ1 : L2.St} {s0 s1 s2 : Sta} {x y : PV} {v u : V} {dl dl1 dl2 dl3 : Dl} {a b c : CE} {ea eb ec tg : Expr} {pos p1 p2 p3 p4 : Pos} {st : Stmt} {Dn : Ends}
/-- a slot's own list is changed -/
theorem Rel.poke {s : Sta} {i : Nat} {xs : List PV} (R : RelS D ms σ s) (h1 : gm ms i = 1) (hx : getV s.env i = some (.lst xs)) :
    ∃ a vs, σ[i]? = some (some (.ref a)) ∧ s.H a = some (.lst vs) ∧ RepVs D s.G xs vs ∧ ∀ xs' vs', RepVs D s.G xs' vs' → RelS D ms σ ⟨s.env.set i (some (.lst xs')), upd s.H a (.lst vs'), s.G, s.Fp⟩ ∧ ExtS [i] s ⟨s.env.set i (some (.lst xs')), upd s.H a (.lst vs'), s.G, s.Fp⟩ := by
  obtain ⟨v, e1, o⟩ := R.at_ i _ hx
  rw [h1] at o
  obtain ⟨a, vs, Fs, rfl, ha, hF, os⟩ := o
  obtain ⟨rs, rfl⟩ := OwnRs.toG os
  have hi : a ∈ s.Fp i := by rw [hF]; simp
  have ga : s.G a = none := R.dis i a hi
  refine ⟨a, vs, e1, ha, rs, fun xs' vs' r' => ⟨⟨fun j y q => ?_, fun j q => ?_, fun b o e => ?_, R.dis, R.nd, R.sep, by simpa using R.len⟩, ⟨fun b o e n => ⟨?_, n, fun q => q⟩, fun j b o hb hj e => ?_, fun _ _ e => e, fun j hj => ⟨rfl, ?_⟩⟩⟩⟩
  · dsimp only at q ⊢
    rw [getV_set] at q
    by_cases hj : i = j ∧ i < s.env.length
    · rw [if_pos hj] at q
      cases q
      obtain ⟨rfl, _⟩ := hj
      refine ⟨_, e1, ?_⟩
      rw [h1]
      exact ⟨a, vs', [], rfl, upd_same, hF, OwnRs.ofG r'⟩
    · rw [if_neg hj] at q
      obtain ⟨w, e2, o2⟩ := R.at_ j y q
      have hne : i ≠ j := fun z => hj ⟨z, getV_lt hx⟩
      refine ⟨w, e2, o2.mono (fun _ _ e => e) fun b hb u e => ?_⟩
      rw [upd_ne (fun z : b = a => hne (R.sep i j a hi (by rw [← z]; exact hb)))]
      exact e
  · dsimp only at q ⊢
    rw [getV_set] at q
    by_cases hj : i = j ∧ i < s.env.length
    · rw [if_pos hj] at q; cases q
    · rw [if_neg hj] at q
      exact R.no j q
  · have : b ≠ a := fun z => by rw [z, ga] at e; cases e
    dsimp only
    rw [upd_ne this]
    exact R.sub b o e
  · have : b ≠ a := fun z => n i (by rw [z]; exact hi)
    dsimp only
    rw [upd_ne this]
    exact e
  · have hji : j ≠ i := fun z => hj (by rw [z]; exact List.mem_singleton_self i)
    dsimp only
    rw [upd_ne (fun z : b = a => hji (R.sep j i a (by rw [← z]; exact hb) hi))]
    exact e
  · have hji : j ≠ i := fun z => hj (by rw [z]; exact List.mem_singleton_self i)
    dsimp only
    rw [getV_set, if_neg fun z => hji z.1.symm]
theorem ss_app {i : Nat} {nm mn : Str} (hm : mn = "append") (hN : X.N[i]? = some nm) (hv : Vis X.env.scope nm) (h1 : gm ms i = 1) (hd1 : (nm == ("__debug__" : Str)) = false) (hd2 : (nm == ("__classdict__" : Str)) = false) (ha : SE D X C W ms M .sh a ea) (hM : i ∉ M) (hB : dmOk ms B = true)
    (ha1 : attributeBase (.Name nm p2) mn X.env (eval (.Name nm p2) X.env) = eval (.Name nm p2) X.env) (hl : (p3.endLine == p4.line) = true) (hst : starEach [ea] X.env = (false, eval ea X.env) :: starEach [] X.env)
    (hk : (((((backTo p4 (starEach [ea] X.env)).all fun x => !x.fst) && (backToKw p4 (keywordEach [] X.env)).all fun x => x.fst.isSome) && decide ((([ea] : List Expr).length + ([] : List Keyword).length + if ([] : List Keyword).isEmpty = true then 0 else 1) < 30)) = true))
    (hsw : swapsWith (.Call (.Attribute (.Name nm p2) mn p3) [ea] [] p4) none pos.line X.env = pure false) :
    SS D X C W B L rm P ms ms (.app i [] a) (.Expr (.Call (.Attribute (.Name nm p2) mn p3) [ea] [] p4) pos) := by
  subst hm
  have hsz : sizeLine = 16777216 := rfl
  refine PS.imp (ps_expr (pe_bm PySem.F.plainAttrs_list PySem.F.slot_list_append PySem.F.type_list_append mt_append (pe_var hN hv hd1 hd2) (pa_cons ha pa_nil hst) ha1 hk hl hst rfl) hsw) fun Dn σ H ⟨env, G, Fp, R, h⟩ => ?_
  have h : PoS D W B L rm P ms σ ⟨env, H, G, Fp⟩ Dn (match getV env i with
    | some x => (match atPath [] x with
      | some (.lst _) => (evE C a env).then fun v e2 => onSlot i (onPath (appV v) []) e2
      | _ => .st)
    | none => .st) := h
  cases q : getV env i with
  | none => rw [q] at h; exact h.elim
  | some x =>
    rw [q] at h
    cases x with
    | lst xs =>
      have h : PoS D W B L rm P ms σ ⟨env, H, G, Fp⟩ Dn ((evE C a env).then fun v e2 => onSlot i (onPath (appV v) []) e2) := h
      obtain ⟨p, vs, e1, e2, rs, _⟩ := R.poke (s := ⟨env, H, G, Fp⟩) h1 q
      refine ⟨_, e1, .inl ⟨rfl, vs, .inl (.inl e2)⟩, PoS.expr (ev := evE C a) (del := fun σ => Dlv D ms σ .sh) (M := M) h R hB fun y vy s1 R1 E1 d1 k1 => ?_⟩
      have q1 : getV s1.env i = some (.lst xs) := ((E1.same i hM).2).trans q
      obtain ⟨p', vs', e3, e4, rs', pk⟩ := R1.poke h1 q1
      rw [e1] at e3
      cases e3
      have k1 : PoS D W B L rm P ms σ ⟨env, H, G, Fp⟩ Dn (match getV s1.env i with
        | some x => (match appV y x with
          | some y => .nx (s1.env.set i (some y))
          | none => .st)
        | none => .st) := k1
      rw [q1] at k1
      dsimp only [appV] at k1
      by_cases hz : xs.length < SZ
      · rw [grd, if_pos hz] at k1
        obtain ⟨R2, E2⟩ := pk (xs ++ [y]) (vs' ++ [vy]) (RepVs.app rs' ⟨vy, [], rfl, d1, rfl⟩)
        exact ⟨p, vs', vy, rfl, rfl, e4, by rw [← rs'.length, hsz]; exact hz, k1 _ _ _ _ R2 (E1.all_.trans E2.all_) Kp.refl⟩
      · rw [grd, if_neg hz] at k1
        exact k1.elim
    | _ => exact h.elim
theorem ss_sto {i : Nat} {nm : Str} {k : CE} {ek : Expr} (hN : X.N[i]? = some nm) (hv : Vis X.env.scope nm) (h1 : gm ms i = 1) (hd1 : (nm == ("__debug__" : Str)) = false) (hd2 : (nm == ("__classdict__" : Str)) = false) (ha : SE D X C W ms M .sh a ea) (hk : SE D X C W ms M1 dl k ek) (hop : opOk dl [] = true) (hB : dmOk ms B = true)
    (hpl : ∀ v, assign (.Subscript (.Name nm p2) ek p3) X.env v = (do let ov ← holding [v] (eval (.Name nm p2) X.env); let iv ← holding [v, ov] (eval ek X.env); standAt p3; holding [v, ov, iv] (setItem ov iv v); release [v, ov, iv] []))
    (w1 : swapsWithSole [.Subscript (.Name nm p2) ek p3] ea pos.line X.env = pure false) (w2 : swappedStores [.Subscript (.Name nm p2) ek p3] ea X.env = pure none) (w3 : List.map (fun x => x.snd) (assignEach [.Subscript (.Name nm p2) ek p3] X.env) = [assign (.Subscript (.Name nm p2) ek p3) X.env]) :
    SS D X C W B L rm P ms ms (.sto i [k] a) (.Assign [.Subscript (.Name nm p2) ek p3] ea pos) := by
  refine PS.imp (ps_asg ha (pg_sub (pe_var hN hv hd1 hd2) hk set_list hpl) w1 w2 w3) fun Dn σ H ⟨env, G, Fp, R, h⟩ => ?_
  refine PoS.expr (ev := evE C a) (del := fun σ => Dlv D ms σ .sh) (M := M) (f := fun v e1 => match getV e1 i with
    | some _ => (evEs C [k] e1).then fun q e2 => (match q.reverse with
      | k :: r => onSlot i (onPath (storeV k v) r.reverse) e2
      | [] => .st)
    | none => .st) h R hB fun y vy s1 R1 E1 d1 k1 => ?_
  cases q : getV s1.env i with
  | none => rw [q] at k1; exact k1.elim
  | some x0 =>
    rw [q] at k1
    obtain ⟨w, e1, _⟩ := R1.at_ i x0 q
    refine ⟨w, e1, ?_⟩
    have e : ∀ env, ((evEs C [k] env).then fun q e2 => (match q.reverse with
      | k :: r => onSlot i (onPath (storeV k y) r.reverse) e2
      | [] => O.st)) = (evE C k env).then fun kv e2 => onSlot i (storeV kv y) e2 := fun env => by
      show (((evE C k env).bind fun v e1 => (Ev.R.ok [] e1).bind fun vs e2 => .ok (v :: vs) e2).then _) = _
      cases evE C k env <;> rfl
    dsimp only at k1
    rw [e] at k1
    refine PoS.expr (ev := evE C k) (del := fun σ => Dlv D ms σ dl) (M := M1) (PoS.go k1 E1.all_ Kp.refl) R1 hB fun kv vk s2 R2 E2 d2 k2 => ?_
    have k2 : PoS D W B L rm P ms σ s1 Dn (match getV s2.env i with
      | some x => (match storeV kv y x with
        | some y => .nx (s2.env.set i (some y))
        | none => .st)
      | none => .st) := k2
    cases q2 : getV s2.env i with
    | none => rw [q2] at k2; exact k2.elim
    | some x =>
      rw [q2] at k2
      cases q3 : storeV kv y x with
      | none => dsimp only at k2; rw [q3] at k2; exact k2.elim
      | some z =>
        dsimp only at k2
        rw [q3] at k2
        cases x <;> cases kv <;> simp [storeV] at q3
        rename_i xs n
        obtain ⟨zs, hz, rfl⟩ := q3
        obtain ⟨p, vs, e3, e4, rs, pk⟩ := R2.poke h1 q2
        rw [e1] at e3
        cases e3
        have := (d2.here hop R2).int
        subst this
        have dy : RepV D s2.G y vy := RepV.mono E2.mono d1
        have set_rep : ∀ (xs : List PV) (vs : List V) (j : Nat), RepVs D s2.G xs vs → RepVs D s2.G (xs.set j y) (vs.set j vy) := fun xs => by
          induction xs with
          | nil => intro vs j r; cases r; exact rfl
          | cons x xs ih =>
            intro vs j r
            obtain ⟨v, r', rfl, h1, h2⟩ := r
            cases j with
            | zero => exact ⟨vy, r', rfl, dy, h2⟩
            | succ j => exact ⟨v, r'.set j vy, rfl, h1, ih r' j h2⟩
        have hh : ∃ j, ixN vs.length n = some j ∧ zs = xs.set j y := by
          rw [← rs.length]
          unfold setAt at hz
          unfold ixN
          by_cases h0 : 0 ≤ n
          · rw [if_pos h0] at hz ⊢
            by_cases hl : n < xs.length
            · rw [if_pos hl] at hz ⊢
              exact ⟨_, rfl, (Option.some.inj hz).symm⟩
            · rw [if_neg hl] at hz; cases hz
          · rw [if_neg h0] at hz ⊢
            by_cases hl : -(xs.length : Int) ≤ n
            · rw [if_pos hl] at hz ⊢
              exact ⟨_, rfl, (Option.some.inj hz).symm⟩
            · rw [if_neg hl] at hz; cases hz
        obtain ⟨j, hj, rfl⟩ := hh
        obtain ⟨R3, E3⟩ := pk _ _ (set_rep xs vs j rs)
        exact ⟨p, vs, n, j, rfl, rfl, e4, hj, k2 _ _ _ _ R3 (E2.all_.trans E3.all_) Kp.refl⟩
/-! ### try -/
def SH (D : Dm) (X : Cx) (C : Calls) (W : WX) (B L : List Nat) (rm : Nat) (P ms : List Nat) (hs : List (List Nat × List Nat × List CS)) (hds : List ExceptHandler) : Prop := ∃ l, HdsOk X hds l ∧
  ∀ k e1 σ s0 Dn, PoS D W B L rm P ms σ s0 Dn (exHs C k hs e1) → ∀ σ' H G Fp, RelS D B σ' ⟨e1, H, G, Fp⟩ → ExtA s0 ⟨e1, H, G, Fp⟩ → Kp P σ σ' → wMany X.K W Dn l (.ref (D.xa k)) none σ' H
theorem sh_nil : SH D X C W B L rm P ms [] [] := ⟨[], .nil, fun k e1 σ s0 Dn h σ' H G Fp R E K => h σ' H G Fp R E K⟩
theorem PoS.noX {o : O} (h : PoS D W B L rm P ms σ s0 Dn (noXO o)) : PoS D WF B L rm P ms σ s0 Dn o := by
  cases o with
  | ex k env => exact h.elim
  | nx env => exact h
  | rt x env => exact h
  | bk env => exact h
  | ct env => exact h
  | st => exact h
theorem sh_cons {nm : Str} {cv : Value} {b₀ : Stmt} {suite : List Stmt} {hds : List ExceptHandler} {cs ns : List Nat} {cb : List CS} {hs : List (List Nat × List Nat × List CS)} (hn : Names X nm cv)
    (hb : ∀ a pn, SSs D (X.suite a pn) C WF B L rm P B ms cb (b₀ :: suite)) (hcs : ∀ k, k ∈ cs → PySem.W.exmOne X.K (.ref (D.xa k)) cv = some true) (hns : ∀ k, k ∈ ns → PySem.W.exmOne X.K (.ref (D.xa k)) cv = some false) (hh : SH D X C W B L rm P ms hs hds) :
    SH D X C W B L rm P ms ((cs, ns, cb) :: hs) (.ExceptHandler (some (.Name nm p1)) none (b₀ :: suite) p2 :: hds) := by
  obtain ⟨l, hl, hk⟩ := hh
  refine ⟨(cv, fun _ _ _ => RdS D WF B L rm P B ms (exSs C cb)) :: l, .cons hn (fun a oe cls d pn _ _ => hb a ((a, oe) :: pn)) hl, fun k e1 σ s0 Dn h σ' H G Fp R E K => ?_⟩
  have h : PoS D W B L rm P ms σ s0 Dn (if cs.contains k then noXO (exSs C cb e1) else if ns.contains k then exHs C k hs e1 else .st) := h
  by_cases hc : cs.contains k = true
  · rw [if_pos hc] at h
    exact ⟨true, hcs k (by simpa using hc), fun _ a _ => ⟨e1, G, Fp, R, PoS.go (PoS.noX h) E K⟩, fun q => nomatch q⟩
  · rw [if_neg hc] at h
    by_cases hn : ns.contains k = true
    · rw [if_pos hn] at h
      exact ⟨false, hns k (by simpa using hn), fun q => (nomatch q), fun _ => hk k e1 σ s0 Dn h σ' H G Fp R E K⟩
    · rw [if_neg hn] at h
      exact h.elim
theorem ss_try {cb : List CS} {sb : List Stmt} {hs : List (List Nat × List Nat × List CS)} {h₀ : ExceptHandler} {hds : List ExceptHandler} (hst : X.stack = X.env :: X.outer) (hf : X.env.frame = some X.env.locals) (tk : Takes X W)
    (hb : ∀ (W' : WX) (pn : List (Addr × Obj)) (xe : Value → Shared → Prop), Takes (X.tr pn xe) W' → PassesOwn (model X.prog X.w) X.A X.env xe → SSs D (X.tr pn xe) C W' B L rm P ms ms1 cb sb) (hh : SH D X C W B L rm P ms1 hs (h₀ :: hds)) :
    SS D X C W B L rm P ms ms1 (.try cb hs) (.Try sb (h₀ :: hds) [] [] pos) := by
  obtain ⟨l, hl, hk⟩ := hh
  refine PS.imp (ps_try_many (tb := fun W' => RdS D W' B L rm P ms ms1 (exSs C cb)) hst hf tk (fun W' pn xe t po => hb W' pn xe t po) hl) fun Dn σ H ⟨env, G, Fp, R, h⟩ => ⟨env, G, Fp, R, ?_⟩
  have h : PoS D W B L rm P ms1 σ ⟨env, H, G, Fp⟩ Dn (match exSs C cb env with
    | .ex c e1 => exHs C c hs e1
    | r => r) := h
  cases q : exSs C cb env with
  | ex c e1 =>
    rw [q] at h
    exact fun σ' H' G' Fp' R' E' K' => hk c e1 σ _ Dn h σ' H' G' Fp' R' E' K'
  | nx env => rw [q] at h; exact h
  | rt x env => rw [q] at h; exact h
  | bk env => rw [q] at h; exact h
  | ct env => rw [q] at h; exact h
  | st => rw [q] at h; exact h
end
/-! ### defs -/
def posT : List Bool → Nat → List Nat
  | [], _ => []
  | true :: r, k => k :: posT r (k + 1)
  | false :: r, k => posT r (k + 1)
theorem posT_mem : ∀ {io : List Bool} {k j : Nat}, j ∈ posT io k ↔ k ≤ j ∧ io[j - k]? = some true
  | [], k, j => by simp [posT]
  | true :: r, k, j => by
    simp only [posT, List.mem_cons, posT_mem (io := r)]
    constructor
    · rintro (rfl | ⟨h1, h2⟩)
      · exact ⟨Nat.le_refl _, by simp⟩
      · refine ⟨by omega, ?_⟩
        rw [show j - k = (j - (k + 1)) + 1 by omega]
        simpa using h2
    · rintro ⟨h1, h2⟩
      by_cases e : j = k
      · exact .inl e
      · refine .inr ⟨by omega, ?_⟩
        rw [show j - k = (j - (k + 1)) + 1 by omega] at h2
        simpa using h2
  | false :: r, k, j => by
    simp only [posT, posT_mem (io := r)]
    constructor
    · rintro ⟨h1, h2⟩
      refine ⟨by omega, ?_⟩
      rw [show j - k = (j - (k + 1)) + 1 by omega]
      simpa using h2
    · rintro ⟨h1, h2⟩
      by_cases e : j = k
      · subst e
        simp at h2
      · refine ⟨by omega, ?_⟩
        rw [show j - k = (j - (k + 1)) + 1 by omega] at h2
        simpa using h2
theorem fins_out : ∀ {io : List Bool} {k : Nat} {env env' : Env} {fs : List PV}, fins env (posT io k) = some fs → outE io fs = some env' →
    env'.length = io.length ∧ ∀ j, getV env' j = if io[j]? = some true then getV env (k + j) else none
  | [], k, env, env', fs, h, ho => by
    cases h
    cases ho
    exact ⟨rfl, fun j => by simp [getV]⟩
  | true :: r, k, env, env', fs, h, ho => by
    have h : (match getV env k, fins env (posT r (k + 1)) with | some x, some xs => some (x :: xs) | _, _ => none) = some fs := h
    cases q : getV env k with
    | none => rw [q] at h; cases h
    | some x =>
      cases q2 : fins env (posT r (k + 1)) with
      | none => rw [q, q2] at h; cases h
      | some xs =>
        rw [q, q2] at h
        cases h
        have ho : (outE r xs).map (some x :: ·) = some env' := ho
        rw [Option.map_eq_some_iff] at ho
        obtain ⟨e2, ho2, rfl⟩ := ho
        obtain ⟨l, f⟩ := fins_out q2 ho2
        refine ⟨by simp [l], fun j => ?_⟩
        cases j with
        | zero => simp only [List.getElem?_cons_zero, if_true, Nat.add_zero]; rw [q]; rfl
        | succ j =>
          rw [show getV (some x :: e2) (j + 1) = getV e2 j from rfl, f j]
          simp only [List.getElem?_cons_succ]
          rw [show k + 1 + j = k + (j + 1) by omega]
  | false :: r, k, env, env', fs, h, ho => by
    have h : fins env (posT r (k + 1)) = some fs := h
    have ho : (outE r fs).map (none :: ·) = some env' := by cases fs <;> exact ho
    rw [Option.map_eq_some_iff] at ho
    obtain ⟨e2, ho2, rfl⟩ := ho
    obtain ⟨l, f⟩ := fins_out h ho2
    refine ⟨by simp [l], fun j => ?_⟩
    cases j with
    | zero => simp only [List.getElem?_cons_zero]; rw [if_neg (by simp)]; rfl
    | succ j =>
      rw [show getV (none :: e2) (j + 1) = getV e2 j from rfl, f j]
      simp only [List.getElem?_cons_succ]
      rw [show k + 1 + j = k + (j + 1) by omega]
theorem outE_ex : ∀ {io : List Bool} {k : Nat} {env : Env} {fs : List PV}, fins env (posT io k) = some fs → ∃ env', outE io fs = some env'
  | [], k, env, fs, h => by
    cases h
    exact ⟨[], rfl⟩
  | true :: r, k, env, fs, h => by
    have h : (match getV env k, fins env (posT r (k + 1)) with | some x, some xs => some (x :: xs) | _, _ => none) = some fs := h
    cases q : getV env k with
    | none => rw [q] at h; cases h
    | some x =>
      cases q2 : fins env (posT r (k + 1)) with
      | none => rw [q, q2] at h; cases h
      | some xs =>
        rw [q, q2] at h
        cases h
        obtain ⟨e2, h2⟩ := outE_ex q2
        exact ⟨some x :: e2, by show (outE r xs).map (some x :: ·) = _; rw [h2]; rfl⟩
  | false :: r, k, env, fs, h => by
    obtain ⟨e2, h2⟩ := outE_ex (io := r) (k := k + 1) h
    exact ⟨none :: e2, by
      have : outE (false :: r) fs = (outE r fs).map (none :: ·) := by cases fs <;> rfl
      rw [this, h2]
      rfl⟩
/-- the owned slots that last through a def: its in-out parameters -/
def baseM : List Bool → List Nat → List Nat
  | true :: r, m :: ms => m :: baseM r ms
  | false :: r, _ :: ms => 0 :: baseM r ms
  | _, _ => []
theorem baseM_at : ∀ {io : List Bool} {ms : List Nat} (j : Nat), io.length = ms.length → gm (baseM io ms) j = if io[j]? = some true then gm ms j else 0
  | [], [], j, _ => by simp [baseM, gm]
  | [], _ :: _, j, h => by simp at h
  | _ :: _, [], j, h => by simp at h
  | true :: r, m :: ms, 0, h => by simp [baseM, gm]
  | false :: r, m :: ms, 0, h => by simp [baseM, gm]
  | true :: r, m :: ms, j + 1, h => by
    have := baseM_at (io := r) (ms := ms) j (by simpa using h)
    simpa [baseM, gm] using this
  | false :: r, m :: ms, j + 1, h => by
    have := baseM_at (io := r) (ms := ms) j (by simpa using h)
    simpa [baseM, gm] using this
theorem baseM_len : ∀ {io : List Bool} {ms : List Nat}, io.length = ms.length → (baseM io ms).length = ms.length
  | [], [], _ => rfl
  | [], _ :: _, h => by simp at h
  | _ :: _, [], h => by simp at h
  | true :: r, m :: ms, h => by simp [baseM, baseM_len (io := r) (ms := ms) (by simpa using h)]
  | false :: r, m :: ms, h => by simp [baseM, baseM_len (io := r) (ms := ms) (by simpa using h)]
section
variable {D : Dm} {C : Calls} {σ : L2.St} {P : Program} {w : World} {K : PySem.W.Frag} {mg : Str → Option Value} {base : Heap}
/-- the way out of a def: what is left of its state -/
theorem out_of {io : List Bool} {pms : List Nat} {vs : List V} {rest : L2.St} {σ' : L2.St} {env env' : Env} {H G : Hp} {Fp : Fps} {fs : List PV} {s0 : Sta} (hl : io.length = pms.length) (hv : vs.length = pms.length) (hf : fins env (posT io 0) = some fs) (ho : outE io fs = some env')
    (R : RelS D (baseM io pms) σ' ⟨env, H, G, Fp⟩) (E : ExtA s0 ⟨env, H, G, Fp⟩) (Kq : Kp (posT io 0) (vs.map some ++ rest) σ') :
    ∃ Fp', RelS D pms (vs.map some) ⟨env', H, G, Fp'⟩ ∧ ExtA s0 ⟨env', H, G, Fp'⟩ ∧ ∀ n x v, Dlv D (baseM io pms) σ' (.own n) x v s0 ⟨env, H, G, Fp⟩ → Dlv D pms (vs.map some) (.own n) x v s0 ⟨env', H, G, Fp'⟩ := by
  obtain ⟨l, f⟩ := fins_out hf ho
  have sub : ∀ i b, b ∈ (if io[i]? = some true then Fp i else []) → io[i]? = some true ∧ b ∈ Fp i := fun i b h => by
    by_cases q : io[i]? = some true
    · rw [if_pos q] at h; exact ⟨q, h⟩
    · rw [if_neg q] at h; cases h
  refine ⟨fun i => if io[i]? = some true then Fp i else [], ⟨fun j x q => ?_, fun j q => ?_, R.sub, fun j b hb => R.dis j b (sub j b hb).2, fun j => ?_, fun i j b hb hb' => R.sep i j b (sub i b hb).2 (sub j b hb').2, by simp [l, hl, hv]⟩, ⟨fun b o e n => ?_, fun _ _ _ _ h _ => absurd trivial h, E.mono, fun _ h => absurd trivial h⟩, fun n x v ⟨F, t, nw⟩ => ⟨F, ⟨t.own, fun b hb => ⟨(t.dis b hb).1, fun i hi => (t.dis b hb).2 i (sub i b hi).2⟩, t.nd⟩, nw⟩⟩
  · dsimp only at q ⊢
    rw [f j] at q
    by_cases hj : io[j]? = some true
    · rw [if_pos hj, Nat.zero_add] at q
      obtain ⟨v, e1, o⟩ := R.at_ j x q
      have hlt : j < vs.length := by
        rw [hv, ← hl]
        rcases Nat.lt_or_ge j io.length with h | h
        · exact h
        · rw [List.getElem?_eq_none h] at hj; cases hj
      have e2 := Kq j (posT_mem.mpr ⟨Nat.zero_le _, by simpa using hj⟩)
      rw [e1, List.getElem?_append_left (by simpa using hlt)] at e2
      refine ⟨v, e2.symm, ?_⟩
      rw [baseM_at j hl, if_pos hj] at o
      rw [if_pos hj]
      exact o
    · rw [if_neg hj] at q; cases q
  · dsimp only at q ⊢
    by_cases hj : io[j]? = some true
    · rw [if_pos hj]
      rw [f j, if_pos hj, Nat.zero_add] at q
      exact R.no j q
    · rw [if_neg hj]
  · dsimp only
    split
    · exact R.nd j
    · exact List.Pairwise.nil
  · obtain ⟨a1, a2, a3⟩ := E.far b o e n
    exact ⟨a1, fun i hi => a2 i (sub i b hi).2, a3⟩
theorem fn_okG {CXx : CXT} (Ef : XK → XK) {x qual : Str} {params : Arguments} {body : List Stmt} {scope : Scope} {kws : List (Str × V)} {fa : Addr} {fd : FuncData} {N ps : List Str} {k f : Nat} {io : List Bool} {pms ms1 : List Nat} {rm : Nat} {cb : List CS} {fdd : FD} {C' : Calls}
    (F : FunD K x qual params body scope [] kws fa fd) (S : FnScope N ps scope) (hC : ∀ vs, C' f vs = runF fdd C vs) (hb : fdd.body = cb) (hio : fdd.io = posT io 0) (hnp : fdd.np = ps.length) (hns : fdd.ns = N.length) (hl : io.length = ps.length) (hp : pms.length = ps.length) (hm : dmOk ms1 (baseM io pms) = true)
    (hB : ∀ cdv A outer s H E, Room k (A.deeper (envOfC qual scope s.heap.objs.size fa cdv)) → SSs D (cxOf CXx P w K mg base N qual scope fa cdv A outer s H E) C (fun cls d _ H => Ef E cls d H) (baseM io pms) [] rm (posT io 0) (pms ++ List.replicate (N.length - pms.length) 0) ms1 cb body) :
    FnOk P w K mg base CXx (k + 1) fa fd ps (fun vs H Q E => spF D C' f io pms rm vs H Q (Ef E)) := by
  refine F.ok S (fun vs H Q E h => ?_) (fun cdv A outer s H vs Q E hr h => ⟨_, hB cdv A outer s H E hr, ?_⟩)
  · obtain ⟨qs, G, Fp, R, hq, _⟩ := h
    have := R.len
    simp at this
    omega
  · obtain ⟨qs, G, Fp, R, hq, h⟩ := h
    have hlen : qs.length = vs.length := by
      have := R.len
      simpa using this
    rw [hC] at h
    have hnpq : qs.length = fdd.np := by rw [hq, hl, hnp]
    have h : PoF D io pms rm (vs.map some) ⟨qs.map some, H, G, Fp⟩ (match exSs C cb (qs.map some ++ List.replicate (fdd.ns - fdd.np) none) with
      | .nx env => (match fins env fdd.io with
        | some fs => .ok .non fs
        | none => .st)
      | .rt v env => (match fins env fdd.io with
        | some fs => .ok v fs
        | none => .st)
      | .ex c env => (match fins env fdd.io with
        | some fs => .ex c fs
        | none => .st)
      | _ => .st) Q (Ef E) := by
      unfold runF at h
      rw [if_pos hnpq, hb] at h
      exact h
    have gpad : ∀ j, gm (pms ++ List.replicate (N.length - pms.length) 0) j = gm pms j := fun j => by
      unfold gm
      simp only [List.getD_eq_getElem?_getD]
      by_cases hj : j < pms.length
      · rw [List.getElem?_append_left hj]
      · rw [List.getElem?_append_right (by omega), List.getElem?_eq_none (l := pms) (by omega), List.getElem?_replicate]
        split <;> rfl
    have getpad : ∀ n j, getV (qs.map some ++ List.replicate n none) j = getV (qs.map some) j := fun n j => by
      unfold getV
      by_cases hj : j < qs.length
      · rw [List.getElem?_append_left (by simpa using hj)]
      · rw [List.getElem?_append_right (by simpa using hj), List.getElem?_eq_none (l := qs.map some) (by simpa using hj), List.getElem?_replicate]
        split <;> simp_all
    have hstart : start N vs = vs.map some ++ List.replicate (N.length - vs.length) none := rfl
    have R0 : RelS D (pms ++ List.replicate (N.length - pms.length) 0) (start N vs) ⟨qs.map some ++ List.replicate (fdd.ns - fdd.np) none, H, G, Fp⟩ := by
      refine ⟨fun j x q => ?_, fun j q => ?_, R.sub, R.dis, R.nd, R.sep, ?_⟩
      · dsimp only at q
        rw [getpad] at q
        obtain ⟨v, e1, o⟩ := R.at_ j x q
        have hj : j < vs.length := by
          have := getV_lt q
          simp at this
          omega
        refine ⟨v, ?_, ?_⟩
        · rw [hstart, List.getElem?_append_left (by simpa using hj)]
          exact e1
        · rw [gpad]; exact o
      · dsimp only at q
        rw [getpad] at q
        exact R.no j q
      · dsimp only
        rw [hstart]
        simp [hlen, hns, hnp]
        omega
    have hvp : vs.length = pms.length := by rw [← hlen, hq, hl, hp]
    have hlp : io.length = pms.length := by rw [hl, hp]
    have E0 : ∀ s' : Sta, ExtA ⟨qs.map some ++ List.replicate (fdd.ns - fdd.np) none, H, G, Fp⟩ s' → ExtA ⟨qs.map some, H, G, Fp⟩ s' := fun s' E => ⟨E.far, fun _ _ _ _ h _ => absurd trivial h, E.mono, fun _ h => absurd trivial h⟩
    refine ⟨_, G, Fp, R0, ?_⟩
    cases q : exSs C cb (qs.map some ++ List.replicate (fdd.ns - fdd.np) none) with
    | nx env =>
      rw [q, hio] at h
      intro σ' H' G' Fp' R' E' K'
      dsimp only at h
      cases hf : fins env (posT io 0) with
      | none => rw [hf] at h; exact h.elim
      | some fs =>
        rw [hf] at h
        obtain ⟨G2, Fp2, R2, E2⟩ := Rel.dem R' hm
        have ⟨env', ho⟩ : ∃ env', outE io fs = some env' := outE_ex hf
        obtain ⟨Fp3, R3, E3, dd⟩ := out_of (rest := List.replicate (N.length - vs.length) none) hlp hvp hf ho R2 (E0 _ (E'.trans E2)) K'
        exact h env' .non H' G2 Fp3 ho R3 E3 ⟨[], Tmp.flat rfl rfl, fun _ _ _ _ => List.not_mem_nil⟩
    | rt x env =>
      rw [q, hio] at h
      intro v σ' H' G' Fp' R' E' K' dv
      dsimp only at h
      cases hf : fins env (posT io 0) with
      | none => rw [hf] at h; exact h.elim
      | some fs =>
        rw [hf] at h
        have ⟨env', ho⟩ : ∃ env', outE io fs = some env' := outE_ex hf
        obtain ⟨Fp3, R3, E3, dd⟩ := out_of (rest := List.replicate (N.length - vs.length) none) hlp hvp hf ho R' (E0 _ E') K'
        exact h env' v H' G' Fp3 ho R3 E3 (dd _ _ _ dv)
    | ex c env =>
      rw [q, hio] at h
      intro σ' H' G' Fp' R' E' K'
      dsimp only at h
      cases hf : fins env (posT io 0) with
      | none => rw [hf] at h; exact h.elim
      | some fs =>
        rw [hf] at h
        have ⟨env', ho⟩ : ∃ env', outE io fs = some env' := outE_ex hf
        obtain ⟨Fp3, R3, E3, dd⟩ := out_of (rest := List.replicate (N.length - vs.length) none) hlp hvp hf ho R' (E0 _ E') K'
        exact h env' H' G' Fp3 ho R3 E3
    | bk env => rw [q] at h; exact h.elim
    | ct env => rw [q] at h; exact h.elim
    | st => rw [q] at h; exact h.elim
theorem fn_ok {x qual : Str} {params : Arguments} {body : List Stmt} {scope : Scope} {kws : List (Str × V)} {fa : Addr} {fd : FuncData} {N ps : List Str} {k f : Nat} {io : List Bool} {pms ms1 : List Nat} {rm : Nat} {cb : List CS} {fdd : FD} {C' : Calls}
    (F : FunD K x qual params body scope [] kws fa fd) (S : FnScope N ps scope) (hC : ∀ vs, C' f vs = runF fdd C vs) (hb : fdd.body = cb) (hio : fdd.io = posT io 0) (hnp : fdd.np = ps.length) (hns : fdd.ns = N.length) (hl : io.length = ps.length) (hp : pms.length = ps.length) (hm : dmOk ms1 (baseM io pms) = true)
    (hB : ∀ cdv A outer s H E, Room k (A.deeper (envOfC qual scope s.heap.objs.size fa cdv)) → SSs D (cxOf (CX P w) P w K mg base N qual scope fa cdv A outer s H E) C (fun cls d _ H => E cls d H) (baseM io pms) [] rm (posT io 0) (pms ++ List.replicate (N.length - pms.length) 0) ms1 cb body) :
    FnOk P w K mg base (CX P w) (k + 1) fa fd ps (spF D C' f io pms rm) :=
  fn_okG (CXx := CX P w) (fun E => E) F S hC hb hio hnp hns hl hp hm hB
end
end Ev

/-! Ev12: what a program's texts are put together with. -/
namespace Ev
open PySem PySem.Spec PyProof.Rows L2
theorem nmem {P : List Nat} {i : Nat} (h : P.contains i = false) : i ∉ P := by simpa using h
theorem nmemA {P is : List Nat} (h : (is.all fun i => !P.contains i) = true) : ∀ i, i ∈ is → i ∉ P := fun i hi => by
  have := List.all_eq_true.mp h i hi
  simpa using this
theorem subA {P is : List Nat} (h : (is.all fun i => P.contains i) = true) : ∀ i, i ∈ is → i ∈ P := fun i hi => by
  have := List.all_eq_true.mp h i hi
  simpa using this
theorem zeroA {ms is : List Nat} (h : (is.all fun i => gm ms i == 0) = true) : ∀ i, i ∈ is → gm ms i = 0 := fun i hi => by
  have := List.all_eq_true.mp h i hi
  simpa using this
theorem ltb {i n : Nat} (h : Nat.blt i n = true) : i < n := Nat.lt_of_succ_le (Nat.le_of_ble_eq_true h)
theorem neb {i n : Nat} (h : (i == n) = false) : i ≠ n := by simpa using h
theorem allN {p : Nat → Prop} : ∀ k, k ∈ ([] : List Nat) → p k := fun _ h => nomatch h
theorem allC {p : Nat → Prop} {a : Nat} {l : List Nat} (h : p a) (r : ∀ k, k ∈ l → p k) : ∀ k, k ∈ a :: l → p k := fun k hk => by
  rcases List.mem_cons.mp hk with rfl | hk
  · exact h
  · exact r k hk
theorem hu65 {n : Nat} {A : Around} (h : Room n A) : A.units + 65 < cLine := by
  have := h.un
  omega
theorem run_fnS {X : Cx} {CXx : CXT} {k : Nat} {f : Addr} {fd : FuncData} {ps : List Str} {sp : Sp} {E : XK} {pins : List (Addr × Obj)} {σ : L2.St} {H : Hp} {s : Shared} {Q : VK} {us : List Value} {vs : List V}
    (F : FnOk X.prog X.w X.K X.mg X.base CXx k f fd ps sp) (hr : Room k X.A) (hb : Binds X.K fd ps []) (hx : PassesAt CXx X σ E) (I : Inv X pins σ H s) (hv : Vals vs us) (h : sp vs H Q E) :
    wpAny (model X.prog X.w) X.A (call (.ref f) us) (EP X pins σ Q) X.xe s := by
  have hl : us.length = ps.length := by rw [← F.len vs H Q E h]; exact hv.length.symm
  have hb' : BindsTo s fd { pos := us } (List.zip ps us) := by
    have := hb s us I.kIn (by simpa using hl)
    simpa using this
  refine wpAny_call (codeAny_mono (F.run X.A X.stack s H ⟨us, []⟩ us vs Q E hr I.env0 hb' hv h) fun r s' c => ?_)
  cases r with
  | ok a =>
    cases a with
    | ret u =>
      obtain ⟨v, H', e1, e2, e3, e4, e5, e6⟩ := c
      exact ⟨v, H', I.call' e1 e3 e4 e2 (fun b hb => nomatch hb), e5, e6⟩
    | _ => exact c.elim
  | error e => exact hx pins H s e s' I c
/-- a call of a def that an expression gives -/
def tCallV (K : PySem.W.Frag) (S : Addr → List V → Hp → VK → XK → Prop) (W : WX) (tf : TE) (t : TA) : TE := fun σ H Q => tf σ H fun x H1 => ∃ f o fd, x = .ref f ∧ K.lookup f = some o ∧ o.data = .func fd ∧ t σ H1 fun vs H2 => S f vs H2 Q (WE W σ)
theorem pe_callV {X : Cx} {W : WX} {k : Nat} {S : Addr → List V → Hp → VK → XK → Prop} {fe e : Expr} {es : List Expr} {pos : Pos} {tf : TE} {t : TA}
    (hS : ∀ f vs H Q E, S f vs H Q E → ∃ fd ps sp, FnOk X.prog X.w X.K X.mg X.base (CX X.prog X.w) k f fd ps sp ∧ Binds X.K fd ps [] ∧ sp vs H Q E)
    (hf : PE X fe tf) (hr : Room k X.A) (tk : Takes X W) (hs : PA X (e :: es) t) (hst : starEach (e :: es) X.env = (false, eval e X.env) :: starEach es X.env)
    (hev : eval (.Call fe (e :: es) [] pos) X.env = (do let f ← eval fe X.env; callWith pos f [] (backTo pos (starEach (e :: es) X.env)) (backToKw pos (keywordEach [] X.env)))) :
    PE X (.Call fe (e :: es) [] pos) (tCallV X.K S W tf t) := by
  refine ⟨fun pins s σ H Q I h => Call_ (wpAny_mono (hf.run pins s σ H _ I h) ?_ fun _ _ h => h) hev⟩
  rintro u s1 ⟨x, H1, I1, rx, f, o, fd, rfl, lk, hd, h1⟩
  cases rx
  refine callWith_def_at (I1.kIn f o lk) hd (wpAny_mono (hs.run pos pins s1 σ H1 _ I1 h1) ?_ fun _ _ h => h) hst
  rintro us s2 ⟨vs, H2, I2, hv, h2⟩
  obtain ⟨fd', ps, sp, F, hb, hsp⟩ := hS f vs H2 Q _ h2
  exact ⟨I2.kIn f o lk, run_fnS F hr hb (passAt tk σ) I2 hv hsp⟩
theorem FunD.lk {K : PySem.W.Frag} {x qual : Str} {params : Arguments} {body : List Stmt} {scope : Scope} {dvs : List V} {kws : List (Str × V)} {f : Addr} {fd : FuncData} (F : FunD K x qual params body scope dvs kws f fd) : ∃ o, K.lookup f = some o ∧ o.data = .func fd := by
  obtain ⟨oc, od, dV, kV, doc, pm, an, cdv, ct, osl, _, lk, _⟩ := F.ex
  exact ⟨_, lk, rfl⟩
structure Sig where
  ps : List Str
  io : List Bool
  pms : List Nat
  rm : Nat
def AllOk (P : Program) (w : World) (K : PySem.W.Frag) (mg : Str → Option Value) (base : Heap) (D : Dm) (T : List FD) (sigs : List Sig) (n : Nat) : Prop := ∀ i s, sigs[i]? = some s →
  ∃ fd, FnOk P w K mg base (CX P w) n (D.fa i) fd s.ps (spF D (callF T n) i s.io s.pms s.rm) ∧ Binds K fd s.ps [] ∧ PySem.W.keepIn K (.ref (D.fa i)) = true ∧ ∃ o, K.lookup (D.fa i) = some o ∧ o.data = .func fd
section
variable {D : Dm} {X : Cx} {C : Calls} {W : WX} {B L : List Nat} {rm : Nat} {P : List Nat} {ms ms1 ms2 ms3 fms : List Nat} {M M1 M2 M3 : List Nat} {σ σ0 σ1 : L2.St} {s0 s1 s2 : Sta} {x y : PV} {v u : V} {dl dl1 dl2 dl3 : Dl} {a b c : CE} {ea eb ec tg : Expr} {pos p1 p2 p3 p4 : Pos} {st : Stmt} {Dn : Ends}
theorem s_callA {T : List FD} {sigs : List Sig} {sg : Sig} {f n : Nat} {nm : Str} {ks : List (Option Nat)} {cs : List CE} {es : List Expr} (A : AllOk X.prog X.w X.K X.mg X.base D T sigs n) (hsg : sigs[f]? = some sg) (hr : Room n X.A) (hg : Gl X nm) (hm : X.mg nm = some (.ref (D.fa f))) (tk : Takes X W)
    (hs : SAv D X (callF T n) W ms M ks cs (ea :: es)) (hK : okK ms ks sg.pms = true) (hd : dupOk ks = true) (hio : ks.map Option.isSome = sg.io) (h1 : (nm == ("__debug__" : Str)) = false)
    (hst : starEach (ea :: es) X.env = (false, eval ea X.env) :: starEach es X.env) (hst2 : ((backTo pos (starEach es X.env)).any fun x => x.fst) = false) :
    SE D X (callF T n) W ms (M ++ ks.filterMap id) (.own sg.rm) (.call f cs) (.Call (.Name nm p1) (ea :: es) [] pos) := by
  obtain ⟨fd, F, hb, kp, _⟩ := A f sg hsg
  exact s_call F hr hg hm kp hb tk hs hK hd hio h1 hst hst2
theorem s_callvA {T : List FD} {sigs : List Sig} {fs : List Nat} {n m : Nat} {fe : Expr} {cf : CE} {cs : List CE} {es : List Expr} (A : AllOk X.prog X.w X.K X.mg X.base D T sigs n) (hfs : ∀ i, i ∈ fs → ∃ sg, sigs[i]? = some sg ∧ sg.io = List.replicate m false ∧ sg.pms = List.replicate m 0 ∧ sg.rm = 0) (hr : Room n X.A) (tk : Takes X W)
    (hf : SE D X (callF T n) W ms M1 .sh cf fe) (hs : SAv D X (callF T n) W ms M2 (List.replicate m none) cs (ea :: es)) (hK : okK ms (List.replicate m none) (List.replicate m 0) = true) (hd : dupOk (List.replicate m none) = true)
    (hst : starEach (ea :: es) X.env = (false, eval ea X.env) :: starEach es X.env)
    (hev : eval (.Call fe (ea :: es) [] pos) X.env = (do let f ← eval fe X.env; callWith pos f [] (backTo pos (starEach (ea :: es) X.env)) (backToKw pos (keywordEach [] X.env)))) :
    SE D X (callF T n) W ms (M1 ++ M2) (.own 0) (.callv fs cf cs) (.Call fe (ea :: es) [] pos) := by
  refine PE.imp (pe_callV (S := fun f vs H Q E => ∃ i sg, f = D.fa i ∧ sigs[i]? = some sg ∧ spF D (callF T n) i sg.io sg.pms sg.rm vs H Q E) (fun f vs H Q E ⟨i, sg, e1, e2, h⟩ => ?_) hf hr tk hs hst hev) fun σ H Q ⟨env, G, Fp, R, h⟩ => ?_
  · obtain ⟨fd, F, hb, _⟩ := A i sg e2
    subst e1
    exact ⟨fd, _, _, F, hb, h⟩
  · refine PoA.next (s1 := ⟨env, H, G, Fp⟩) (ev := evE (callF T n) cf) (del0 := fun σ => Dlv D ms σ .sh) h R Ext.refl memL fun x vx s1 R1 E1 E1' d1 k1 => ?_
    cases x with
    | fn i =>
      dsimp only at k1
      by_cases hi : fs.contains i = true
      · rw [if_pos hi] at k1
        obtain ⟨sg, hsg, g1, g2, g3⟩ := hfs i (by simpa using hi)
        obtain ⟨fd, F, hb, kp, o, lk, hd'⟩ := A i sg hsg
        refine ⟨D.fa i, o, fd, d1, lk, hd', PoA.next (del0 := fun σ as vs _ s => DelA D σ s.G (List.replicate m none) as vs) (ev := evA (callF T n) cs) k1 R1 E1' memR fun as vs s2 R2 E2 E2' d2 k2 => ⟨i, sg, rfl, hsg, ?_⟩⟩
        rw [g1, g2, g3]
        have k2 : PoA D W ms σ (M1 ++ M2) (Dlv D ms σ (.own 0)) ⟨env, H, G, Fp⟩ (match avs s2.env as with
          | none => .st
          | some vs => match callF T n i vs with
            | .ok v fin => (match putB as fin s2.env with
              | some env' => if hasB as && !v.lf then .st else .ok v env'
              | none => .st)
            | .ex c fin => (match putB as fin s2.env with
              | some env' => .ex c env'
              | none => .st)
            | .st => .st) Q := k2
        have hmm : (List.replicate m (none : Option Nat)).map Option.isSome = List.replicate m false := by simp
        have hfm : (List.replicate m (none : Option Nat)).filterMap id = [] := by
          rw [List.filterMap_eq_nil_iff]
          intro a ha
          rw [List.eq_of_mem_replicate ha]
          rfl
        cases ha : avs s2.env as with
        | none => rw [ha] at k2; exact k2.elim
        | some ps =>
          rw [ha] at k2
          refine ⟨ps, s2.G, fpC s2.Fp (List.replicate m none), call_in R2 d2 ha hK hd, by rw [(d2.at_ ha).1]; simp, ?_⟩
          dsimp only at k2
          cases hc : callF T n i ps with
          | st => rw [hc] at k2; exact k2.elim
          | ex c fin =>
            rw [hc] at k2
            dsimp only at k2
            cases hp : putB as fin s2.env with
            | none => rw [hp] at k2; exact k2.elim
            | some env3 =>
              rw [hp] at k2
              intro env' H' G' Fp' ho R' E'
              rw [← hmm] at ho
              obtain ⟨R3, E3, _⟩ := call_out R2 d2 ha hK hd hp ho R' E'
              rw [hfm] at E3
              exact k2 H' G' _ R3 (Ext.trans2 E2' E3 (fun _ q => q) (fun _ q => nomatch q))
          | ok x fin =>
            rw [hc] at k2
            dsimp only at k2
            cases hp : putB as fin s2.env with
            | none => rw [hp] at k2; exact k2.elim
            | some env3 =>
              rw [hp] at k2
              dsimp only at k2
              rw [d2.noB, if_neg (by simp)] at k2
              intro env' v H' G' Fp' ho R' E' dv
              rw [← hmm] at ho
              obtain ⟨R3, E3, dd⟩ := call_out R2 d2 ha hK hd hp ho R' E'
              rw [hfm] at E3
              exact k2 v H' G' _ R3 (Ext.trans2 E2' E3 (fun _ q => q) (fun _ q => nomatch q)) (Dlv.back (dl := .own 0) E2' (dd _ _ _ dv))
      · rw [if_neg hi] at k1
        exact k1.elim
    | _ => exact k1.elim
theorem s_fn {i : Nat} {nm : Str} (hg : Gl X nm) (hm : X.mg nm = some (.ref (D.fa i))) (hd : (nm == ("__debug__" : Str)) = false) : SE D X C W ms [] .sh (.gl 0 (.fn i)) (.Name nm pos) := s_gl hg hm (w := .ref (D.fa i)) rfl (fun _ => rfl) hd
theorem s_call0A {T : List FD} {sigs : List Sig} {sg : Sig} {f n : Nat} {nm : Str} (A : AllOk X.prog X.w X.K X.mg X.base D T sigs n) (hsg : sigs[f]? = some sg) (hr : Room n X.A) (hg : Gl X nm) (hm : X.mg nm = some (.ref (D.fa f))) (hp : sg.pms = []) (hi : sg.io = []) (h1 : (nm == ("__debug__" : Str)) = false) :
    SE D X (callF T n) W ms [] (.own sg.rm) (.call0 f) (.Call (.Name nm p1) [] [] pos) := by
  obtain ⟨fd, F, hb, kp, _⟩ := A f sg hsg
  have pass : Passes (CX X.prog X.w) X (fun _ _ _ => False) := fun pins σ H s e s' I h => by
    obtain ⟨_, _, _, _, _, _, _, _, _, _, _, _, z⟩ := h
    exact z.elim
  refine PE.imp (pe_call0 F hr hg hm kp hb .nil pass h1) fun σ H Q ⟨env, G, Fp, R, h⟩ => ?_
  have h : PoA D W ms σ [] (Dlv D ms σ (.own sg.rm)) ⟨env, H, G, Fp⟩ (noX (match callF T n f [] with
    | .ok v fin => (match putB [] fin env with
      | some env' => if hasB [] && !v.lf then .st else .ok v env'
      | none => .st)
    | .ex c fin => (match putB [] fin env with
      | some env' => .ex c env'
      | none => .st)
    | .st => .st)) Q := h
  have d1 : DelA D σ G [] [] [] := trivial
  have cin := call_in (fms := []) (ps := []) R d1 rfl rfl rfl
  refine ⟨[], G, fpC Fp [], by rw [hp]; exact cin, by rw [hi]; rfl, ?_⟩
  rw [hp, hi]
  cases hc : callF T n f [] with
  | st => rw [hc] at h; exact h.elim
  | ex c fin =>
    rw [hc] at h
    dsimp only at h
    cases hq : putB [] fin env with
    | none => rw [hq] at h; exact h.elim
    | some e3 => rw [hq] at h; exact h.elim
  | ok x fin =>
    rw [hc] at h
    dsimp only at h
    cases hq : putB [] fin env with
    | none => rw [hq] at h; exact h.elim
    | some env3 =>
      rw [hq] at h
      intro env' v H' G' Fp' ho R' E' dv
      obtain ⟨R3, E3, dd⟩ := call_out (ks := []) (as := []) (vs := []) (ps := []) (fms := []) R d1 rfl rfl rfl hq ho R' E'
      exact h v H' G' _ R3 E3 (dd _ _ _ dv)
theorem ss_rvs {i : Nat} {nm mn : Str} (hm : mn = "reverse") (hN : X.N[i]? = some nm) (hv : Vis X.env.scope nm) (h1 : gm ms i = 1) (hd1 : (nm == ("__debug__" : Str)) = false) (hd2 : (nm == ("__classdict__" : Str)) = false)
    (ha1 : attributeBase (.Name nm p2) mn X.env (eval (.Name nm p2) X.env) = eval (.Name nm p2) X.env) (hl : (p3.endLine == p4.line) = true)
    (hsw : swapsWith (.Call (.Attribute (.Name nm p2) mn p3) [] [] p4) none pos.line X.env = pure false) :
    SS D X C W B L rm P ms ms (.rvs i) (.Expr (.Call (.Attribute (.Name nm p2) mn p3) [] [] p4) pos) := by
  subst hm
  refine PS.imp (ps_expr (pe_bm0 PySem.F.plainAttrs_list PySem.F.slot_list_reverse PySem.F.type_list_reverse mt_reverse (pe_var hN hv hd1 hd2) ha1 hl) hsw) fun Dn σ H ⟨env, G, Fp, R, h⟩ => ?_
  have h : PoS D W B L rm P ms σ ⟨env, H, G, Fp⟩ Dn (match getV env i with
    | some x => (match revv x with
      | some y => .nx (env.set i (some y))
      | none => .st)
    | none => .st) := h
  cases q : getV env i with
  | none => rw [q] at h; exact h.elim
  | some x =>
    rw [q] at h
    cases x with
    | lst xs =>
      obtain ⟨a, vs, e1, e2, rs, pk⟩ := R.poke (s := ⟨env, H, G, Fp⟩) h1 q
      obtain ⟨R2, E2⟩ := pk xs.reverse vs.reverse rs.rev
      exact ⟨_, e1, .inl ⟨rfl, vs, .inl (.inl e2)⟩, a, vs, rfl, rfl, e2, h _ _ _ _ R2 E2.all_ Kp.refl⟩
    | _ => exact h.elim
theorem s_pop {i : Nat} {nm mn : Str} (hm : mn = "pop") (hN : X.N[i]? = some nm) (hv : Vis X.env.scope nm) (h1 : gm ms i = 1) (hd1 : (nm == ("__debug__" : Str)) = false) (hd2 : (nm == ("__classdict__" : Str)) = false)
    (ha1 : attributeBase (.Name nm p2) mn X.env (eval (.Name nm p2) X.env) = eval (.Name nm p2) X.env) (hl : (p3.endLine == p4.line) = true) :
    SE D X C W ms [i] .sh (.pop i) (.Call (.Attribute (.Name nm p2) mn p3) [] [] p4) := by
  subst hm
  refine PE.imp (pe_bm0 PySem.F.plainAttrs_list PySem.F.slot_list_pop PySem.F.type_list_pop mt_pop (pe_var hN hv hd1 hd2) ha1 hl) fun σ H Q ⟨env, G, Fp, R, h⟩ => ?_
  have h : PoA D W ms σ [i] (Dlv D ms σ .sh) ⟨env, H, G, Fp⟩ (match getV env i with
    | some (.lst xs) => (match xs[xs.length - 1]? with
      | some v => .ok v (env.set i (some (.lst xs.dropLast)))
      | none => .st)
    | _ => .st) Q := h
  cases q : getV env i with
  | none => rw [q] at h; exact h.elim
  | some x =>
    rw [q] at h
    cases x with
    | lst xs =>
      dsimp only at h
      cases q2 : xs[xs.length - 1]? with
      | none => rw [q2] at h; exact h.elim
      | some v =>
        rw [q2] at h
        obtain ⟨a, vs, e1, e2, rs, pk⟩ := R.poke (s := ⟨env, H, G, Fp⟩) h1 q
        obtain ⟨vv, e3, rv⟩ := RepVs.get rs q2
        have hdl : RepVs D G xs.dropLast vs.dropLast := by
          rw [List.dropLast_eq_take, List.dropLast_eq_take, rs.length]
          exact rs.take _
        obtain ⟨R2, E2⟩ := pk xs.dropLast vs.dropLast hdl
        rw [rs.length] at e3
        exact ⟨_, e1, .inl ⟨rfl, vs, .inl (.inl e2)⟩, a, vs, vv, rfl, rfl, e2, e3, h _ _ _ _ R2 E2 rv⟩
    | _ => exact h.elim
theorem ss_ext {i : Nat} {nm mn : Str} (hm : mn = "extend") (hN : X.N[i]? = some nm) (hv : Vis X.env.scope nm) (h1 : gm ms i = 1) (hd1 : (nm == ("__debug__" : Str)) = false) (hd2 : (nm == ("__classdict__" : Str)) = false) (ha : SE D X C W ms M (.own 1) a ea) (hM : i ∉ M) (hB : dmOk ms B = true)
    (ha1 : attributeBase (.Name nm p2) mn X.env (eval (.Name nm p2) X.env) = eval (.Name nm p2) X.env) (hl : (p3.endLine == p4.line) = true) (hst : starEach [ea] X.env = (false, eval ea X.env) :: starEach [] X.env)
    (hk : (((((backTo p4 (starEach [ea] X.env)).all fun x => !x.fst) && (backToKw p4 (keywordEach [] X.env)).all fun x => x.fst.isSome) && decide ((([ea] : List Expr).length + ([] : List Keyword).length + if ([] : List Keyword).isEmpty = true then 0 else 1) < 30)) = true))
    (hsw : swapsWith (.Call (.Attribute (.Name nm p2) mn p3) [ea] [] p4) none pos.line X.env = pure false) :
    SS D X C W B L rm P ms ms (.ext i a) (.Expr (.Call (.Attribute (.Name nm p2) mn p3) [ea] [] p4) pos) := by
  subst hm
  have hsz : sizeLine = 16777216 := rfl
  refine PS.imp (ps_expr (pe_bm PySem.F.plainAttrs_list PySem.F.slot_list_extend PySem.F.type_list_extend mt_extend (pe_var hN hv hd1 hd2) (pa_cons ha pa_nil hst) ha1 hk hl hst rfl) hsw) fun Dn σ H ⟨env, G, Fp, R, h⟩ => ?_
  have h : PoS D W B L rm P ms σ ⟨env, H, G, Fp⟩ Dn (match getV env i with
    | some (.lst _) => (evE C a env).then fun v e2 => onSlot i (extV v) e2
    | _ => .st) := h
  cases q : getV env i with
  | none => rw [q] at h; exact h.elim
  | some x =>
    rw [q] at h
    cases x with
    | lst xs =>
      obtain ⟨p, vs, e1, e2, rs, _⟩ := R.poke (s := ⟨env, H, G, Fp⟩) h1 q
      refine ⟨_, e1, .inl ⟨rfl, vs, .inl (.inl e2)⟩, PoS.expr (ev := evE C a) (del := fun σ => Dlv D ms σ (.own 1)) (M := M) h R hB fun y vy s1 R1 E1 d1 k1 => ?_⟩
      have q1 : getV s1.env i = some (.lst xs) := ((E1.same i hM).2).trans q
      obtain ⟨p', vs', e3, e4, rs', pk⟩ := R1.poke h1 q1
      rw [e1] at e3
      cases e3
      have k1 : PoS D W B L rm P ms σ ⟨env, H, G, Fp⟩ Dn (match getV s1.env i with
        | some x => (match extV y x with
          | some y => .nx (s1.env.set i (some y))
          | none => .st)
        | none => .st) := k1
      rw [q1] at k1
      cases y with
      | lst ys =>
        dsimp only [extV] at k1
        obtain ⟨F, t, _⟩ := d1
        obtain ⟨b, us, Fs, rfl, hb, _, os⟩ := t.own
        obtain ⟨ry, _⟩ := OwnRs.toG os
        by_cases hz : xs.length + ys.length ≤ SZ
        · rw [grd, if_pos hz] at k1
          obtain ⟨R2, E2⟩ := pk (xs ++ ys) (vs' ++ us) (RepVs.app rs' ry)
          exact ⟨p, b, vs', us, rfl, rfl, e4, hb, by rw [← rs'.length, ← ry.length, hsz]; exact hz, k1 _ _ _ _ R2 (E1.all_.trans E2.all_) Kp.refl⟩
        · rw [grd, if_neg hz] at k1
          exact k1.elim
      | _ => exact k1.elim
    | _ => exact h.elim
theorem s_glI {n : Nat} {i : Int} {nm : Str} (hg : Gl X nm) (hm : ∃ t, X.mg nm = some (.int i t)) (hd : (nm == ("__debug__" : Str)) = false) : SE D X C W ms [] .sh (.gl n (.int i)) (.Name nm pos) := by
  obtain ⟨t, hm⟩ := hm
  exact s_gl hg hm (w := .int i) ⟨t, rfl⟩ (fun _ => rfl) hd
theorem s_glS {n : Nat} {l : List Nat} {z nm : Str} (hg : Gl X nm) (hm : ∃ t, X.mg nm = some (.str z t)) (ho : okSb l = true) (he : S l = z) (hd : (nm == ("__debug__" : Str)) = false) : SE D X C W ms [] .sh (.gl n (.str l)) (.Name nm pos) := by
  obtain ⟨t, hm⟩ := hm
  subst he
  exact s_gl hg hm (w := .str (S l)) ⟨t, rfl⟩ (fun _ => ⟨okS_b ho, rfl⟩) hd
theorem gm_pad {ms : List Nat} {k j : Nat} : gm (ms ++ List.replicate k 0) j = gm ms j := by
  unfold gm
  simp only [List.getD_eq_getElem?_getD]
  by_cases hj : j < ms.length
  · rw [List.getElem?_append_left hj]
  · rw [List.getElem?_append_right (by omega), List.getElem?_eq_none (l := ms) (by omega), List.getElem?_replicate]
    split <;> rfl
theorem SSs.pre0 {cs : List CS} {sts : List Stmt} {k : Nat} (h : SSs D X C W B L rm P (ms ++ List.replicate k 0) ms2 cs sts) : SSs D X C W B L rm P ms ms2 cs sts := PSs.imp h fun Dn σ H ⟨env, G, Fp, R, q⟩ =>
  ⟨env, G, Fp, ⟨fun i x e => by rw [gm_pad]; exact R.at_ i x e, R.no, R.sub, R.dis, R.nd, R.sep, R.len⟩, q⟩
theorem SS.post {cs : CS} (h : SS D X C W B L rm P ms ms1 cs st) (hd : dmOk ms1 ms2 = true) : SS D X C W B L rm P ms ms2 cs st := PS.imp h fun Dn σ H ⟨env, G, Fp, R, q⟩ => ⟨env, G, Fp, R, q.post hd⟩
/-- a value without a list is owned to any depth -/
theorem s_flat {n : Nat} (h : SE D X C W ms M .sh a ea) (hf : ∀ env x e, evE C a env = .ok x e → x.isL = false) : SE D X C W ms M (.own n) a ea := PE.imp h fun σ H Q ⟨env, G, Fp, R, p⟩ => by
  refine ⟨env, G, Fp, R, ?_⟩
  unfold PoA at p ⊢
  cases e : evE C a env with
  | ok x env1 =>
    rw [e] at p
    exact fun b H G Fp R E d => p b H G Fp R E ⟨[], Tmp.flat d (hf env x env1 e), fun _ _ _ _ => List.not_mem_nil⟩
  | ex c env1 => rw [e] at p; exact p
  | st => rw [e] at p; exact p
theorem rgV_rep {G : Hp} (i j : Int) : RepVs D G (rangeI i 1 (j - i).toNat) (rgV i j) := by
  rw [rangeI_map]
  unfold rgV
  generalize (List.range (j - i).toNat) = l
  induction l with
  | nil => exact rfl
  | cons x l ih => exact ⟨_, _, rfl, rfl, ih⟩
theorem s_lrg1 (hc : X.calm = true) {nl nr : Str} (hnl : nl = "list") (hnr : nr = "range") (hg : Gl X nl) (hm : X.mg nl = none) (hg2 : Gl X nr) (hm2 : X.mg nr = none) (ha : SE D X C W ms M dl a ea) (h1 : opOk dl [] = true) (hst : starEach [ea] X.env = [(false, eval ea X.env)])
    : SE D X C W ms M (.own 1) (.lrg (.r1 a)) (.Call (.Name nl p3) [.Call (.Name nr p1) [ea] [] p2] [] pos) := by
  subst hnl hnr
  refine PE.imp (pe_listRg hc hg hm (prg_1 hg2 hm2 ha hst)) fun σ H Q ⟨env, G, Fp, R, h⟩ => ?_
  have h : PoA D W ms σ M (Dlv D ms σ (.own 1)) ⟨env, H, G, Fp⟩ (((evE C a env).bind fun v e1 => match v with
    | .int n => if inR n then .ok (rangeI 0 1 n.toNat) e1 else .st
    | _ => .st).bind fun xs e1 => if xs.length ≤ SZ then .ok (.lst xs) e1 else .st) Q := h
  rw [Ev.R.bind_assoc] at h
  refine PoA.next (s1 := ⟨env, H, G, Fp⟩) (ev := evE C a) (del0 := fun σ => Dlv D ms σ dl) h R Ext.refl (fun _ h => h) fun x vx s1 R1 E1 E1' d1 h1' => ?_
  cases x <;> first | exact h1'.elim | skip
  rename_i n
  have := (d1.here h1 R1).int
  subst this
  dsimp only at h1'
  by_cases hr : inR n
  · rw [if_pos hr] at h1'
    have h1' : PoA D W ms σ M (Dlv D ms σ (.own 1)) ⟨env, H, G, Fp⟩ (if (rangeI 0 1 n.toNat).length ≤ SZ then Ev.R.ok (PV.lst (rangeI 0 1 n.toNat)) s1.env else .st) Q := h1'
    by_cases hz : (rangeI 0 1 n.toNat).length ≤ SZ
    · rw [if_pos hz] at h1'
      rw [rangeI_len] at hz
      refine ⟨n, rfl, ⟨by decide, by decide, by have := hr.1; omega, by have := hr.2; omega, by rw [Int.sub_zero]; exact hz⟩, fun q hq => ?_⟩
      have rr := rgV_rep (D := D) (G := s1.G) 0 n
      rw [Int.sub_zero] at rr
      exact fin_made (f := true) R1 E1' (Made.lst hq rr) h1'
    · rw [if_neg hz] at h1'; exact h1'.elim
  · rw [if_neg hr] at h1'
    exact h1'.elim
theorem s_lrg2 (hc : X.calm = true) {nl nr : Str} (hnl : nl = "list") (hnr : nr = "range") (hg : Gl X nl) (hm : X.mg nl = none) (hg2 : Gl X nr) (hm2 : X.mg nr = none) (ha : SE D X C W ms M1 dl1 a ea) (hb : SE D X C W ms M2 dl2 b eb) (h1 : opOk dl1 M2 = true) (h2 : opOk dl2 [] = true)
    (hst : starEach [ea, eb] X.env = (false, eval ea X.env) :: starEach [eb] X.env) (hst2 : ((backTo p2 (starEach [eb] X.env)).any fun x => x.fst) = false) (hst3 : starEach [eb] X.env = [(false, eval eb X.env)]) :
    SE D X C W ms (M1 ++ M2) (.own 1) (.lrg (.r2 a b)) (.Call (.Name nl p3) [.Call (.Name nr p1) [ea, eb] [] p2] [] pos) := by
  subst hnl hnr
  refine PE.imp (pe_listRg hc hg hm (by first | exact prg_2 hg2 hm2 ha hb hst hst2 | exact prg_2 hg2 hm2 ha hb hst hst2 hst3 | exact prg_2 hg2 hm2 ha hb hst hst3 hst2)) fun σ H Q ⟨env, G, Fp, R, h⟩ => ?_
  have h : PoA D W ms σ (M1 ++ M2) (Dlv D ms σ (.own 1)) ⟨env, H, G, Fp⟩ (((evE C a env).bind fun v e1 => (evE C b e1).bind fun u e2 => match v, u with
    | .int i, .int j => if inR i ∧ inR j then .ok (rangeI i 1 (j - i).toNat) e2 else .st
    | _, _ => .st).bind fun xs e1 => if xs.length ≤ SZ then .ok (.lst xs) e1 else .st) Q := h
  rw [Ev.R.bind_assoc] at h
  refine PoA.next (s1 := ⟨env, H, G, Fp⟩) (ev := evE C a) (del0 := fun σ => Dlv D ms σ dl1) h R Ext.refl memL fun x vx s1 R1 E1 E1' d1 h1' => ?_
  rw [Ev.R.bind_assoc] at h1'
  refine PoA.next (ev := evE C b) (del0 := fun σ => Dlv D ms σ dl2) h1' R1 E1' memR fun y vy s2 R2 E2 E2' d2 h2' => ?_
  cases x <;> first | exact h2'.elim | skip
  cases y <;> first | exact h2'.elim | skip
  rename_i i j
  have := (d1.held h1 E2 R2).int
  subst this
  have := (d2.here h2 R2).int
  subst this
  dsimp only at h2'
  by_cases hr : inR i ∧ inR j
  · rw [if_pos hr] at h2'
    have h2' : PoA D W ms σ (M1 ++ M2) (Dlv D ms σ (.own 1)) ⟨env, H, G, Fp⟩ (if (rangeI i 1 (j - i).toNat).length ≤ SZ then Ev.R.ok (PV.lst (rangeI i 1 (j - i).toNat)) s2.env else .st) Q := h2'
    by_cases hz : (rangeI i 1 (j - i).toNat).length ≤ SZ
    · rw [if_pos hz] at h2'
      rw [rangeI_len] at hz
      obtain ⟨⟨q1, q2⟩, q3, q4⟩ := hr
      exact ⟨i, j, rfl, rfl, ⟨by omega, by omega, by omega, by omega, hz⟩, fun q hq => fin_made (f := true) R2 E2' (Made.lst hq (rgV_rep i j)) h2'⟩
    · rw [if_neg hz] at h2'; exact h2'.elim
  · rw [if_neg hr] at h2'
    exact h2'.elim
theorem rangeSize_bd (i j c : Int) (h : inR i ∧ inR j) (hc : c ≠ 0) : 0 ≤ Builtin.Range.rangeSize i j c ∧ Builtin.Range.rangeSize i j c < 9223372036854775808 := by
  obtain ⟨⟨h1, h2⟩, h3, h4⟩ := h
  unfold Builtin.Range.rangeSize
  by_cases p : c > 0
  · rw [if_pos p]
    by_cases q : i < j
    · rw [if_pos q]
      have a1 : 0 ≤ (j - i - 1) / c := Int.ediv_nonneg (by omega) (by omega)
      have a2 : (j - i - 1) / c ≤ j - i - 1 := Int.ediv_le_self _ (by omega)
      omega
    · rw [if_neg q]; omega
  · rw [if_neg p]
    by_cases q : i > j
    · rw [if_pos q]
      have a1 : 0 ≤ (i - j - 1) / -c := Int.ediv_nonneg (by omega) (by omega)
      have a2 : (i - j - 1) / -c ≤ i - j - 1 := Int.ediv_le_self _ (by omega)
      omega
    · rw [if_neg q]; omega
theorem rgC_of (i j c : Int) (h : inR i ∧ inR j) (hc : c ≠ 0) (h1 : -1000000 < c) (h2 : c < 1000000) : RgC i j c (rcount i j c) := by
  have b := rangeSize_bd i j c h hc
  obtain ⟨⟨g1, g2⟩, g3, g4⟩ := h
  have e : Builtin.Range.rangeSize i j c = ((rcount i j c : Nat) : Int) := by
    have : rcount i j c = (Builtin.Range.rangeSize i j c).toNat := rfl
    rw [this]
    omega
  have fit : ∀ x : Int, -9223372036854775808 ≤ x → x < 9223372036854775808 → Builtin.Range.rangeFitsLong x = true := fun x a b => by
    unfold Builtin.Range.rangeFitsLong
    simp
    omega
  refine ⟨hc, by omega, ?_, e⟩
  unfold Builtin.Range.small
  rw [fit i (by omega) (by omega), fit j (by omega) (by omega), fit c (by omega) (by omega), fit _ (by omega) b.2]
  by_cases p : c > 0
  · rw [if_pos p, fit _ (by omega) (by omega)]
    simp
  · rw [if_neg p, fit _ (by omega) (by omega)]
    simp
theorem si_r3 {nm : Str} {k : Int} {cc : CE} (hn : nm = "range") (hg : Gl X nm) (hm : X.mg nm = none) (ha : SE D X C W ms M1 dl1 a ea) (hb : SE D X C W ms M2 dl2 b eb) (hc : SE D X C W ms [] .sh cc ec) (hk : ∀ env, evE C cc env = .ok (.int k) env) (h1 : opOk dl1 M2 = true) (h2 : opOk dl2 [] = true)
    (hst : starEach [ea, eb, ec] X.env = (false, eval ea X.env) :: starEach [eb, ec] X.env) (hst2 : ((backTo pos (starEach [eb, ec] X.env)).any fun x => x.fst) = false) (hst3 : starEach [eb, ec] X.env = (false, eval eb X.env) :: starEach [ec] X.env) (hst4 : starEach [ec] X.env = (false, eval ec X.env) :: starEach [] X.env) :
    SI D X C W ms (M1 ++ M2) (.r3 a b k) tg (.Call (.Name nm p1) [ea, eb, ec] [] pos) := by
  subst hn
  refine PI.imp (pi_range3 hg hm (pa_cons ha (pa_cons hb (pa_cons hc pa_nil hst4) hst3) hst) hst hst2) fun σ H Q ⟨env, G, Fp, R, h⟩ => ?_
  refine PoA.next (s1 := ⟨env, H, G, Fp⟩) (ev := evE C a) (del0 := fun σ => Dlv D ms σ dl1) h R Ext.refl memL fun x vx s1 R1 E1 E1' d1 h1' => ?_
  refine PoA.next (ev := evE C b) (del0 := fun σ => Dlv D ms σ dl2) h1' R1 E1' memR fun y vy s2 R2 E2 E2' d2 h2' => ?_
  cases x <;> first | exact h2'.elim | skip
  cases y <;> first | exact h2'.elim | skip
  rename_i i j
  have := (d1.held h1 E2 R2).int
  subst this
  have := (d2.here h2 R2).int
  subst this
  dsimp only at h2'
  by_cases hr : (inR i ∧ inR j) ∧ k ≠ 0 ∧ -1000000 < k ∧ k < 1000000
  · rw [if_pos hr] at h2'
    refine Rd.of_ok (s := s2) (e' := s2.env) R2 (hk s2.env) fun w H3 G3 Fp3 R3 E3 dw => ?_
    have ew : w = .int k := dw
    subst ew
    exact ⟨i, j, k, _, rfl, rgC_of i j k hr.1 hr.2.1 hr.2.2.1 hr.2.2.2, h2' _ _ _ _ R3 (Ext.trans2 E2' E3 (fun _ q => q) (fun _ q => nomatch q)) (itOk_rngC i k _)⟩
  · rw [if_neg hr] at h2'
    exact h2'.elim
/-- the making of an error of the program's own -/
theorem s_mkx {Ca : Addr} {nm m : Str} {j : Nat} (h : PySem.W.excIn X.K Ca He.veBase "ValueError.__new__" = true ∧ PySem.W.keepIn X.K (.ref Ca) = true ∧ PySem.W.subIn X.K (.ref Ca) (.type "BaseException") = some true ∧ PySem.W.typeIn X.K (.ref Ca) = some (.type "type")) (hm : X.mg nm = some (.ref Ca)) (hg : Gl X nm) (hd : (nm == ("__debug__" : Str)) = false) :
    PMk X (.Call (.Name nm p1) [.Constant (.str m) j p2] [] pos) fun _ H Q => Q (.ref Ca) none H :=
  pmk_own PySem.F.excBase_ValueError h.1 hm h.2.1 (raises_own h.2.2.1 h.2.2.2) hg hd
end
theorem FnOk_none {P : Program} {w : World} {K : PySem.W.Frag} {mg : Str → Option Value} {base : Heap} {CX : CXT} {k : Nat} {f : Addr} {fd : FuncData} {ps : List Str} {sp : Sp} (h : ∀ vs H Q E, ¬ sp vs H Q E) : FnOk P w K mg base CX k f fd ps sp :=
  ⟨fun vs H Q E s => (h _ _ _ _ s).elim, fun A outer s H args us vs Q E _ _ _ _ z => (h _ _ _ _ z).elim⟩
theorem allOk {P : Program} {w : World} {K : PySem.W.Frag} {mg : Str → Option Value} {base : Heap} {D : Dm} {T : List FD} {sigs : List Sig}
    (hf : ∀ i s, sigs[i]? = some s → ∃ fd, Binds K fd s.ps [] ∧ PySem.W.keepIn K (.ref (D.fa i)) = true ∧ (∃ o, K.lookup (D.fa i) = some o ∧ o.data = .func fd) ∧ ∀ n, AllOk P w K mg base D T sigs n → FnOk P w K mg base (CX P w) (n + 1) (D.fa i) fd s.ps (spF D (callF T (n + 1)) i s.io s.pms s.rm)) :
    ∀ n, AllOk P w K mg base D T sigs n
  | 0 => fun i s hs => by
    obtain ⟨fd, hb, kp, lk, _⟩ := hf i s hs
    exact ⟨fd, FnOk_none fun vs H Q E ⟨ps, G, Fp, R, l, h⟩ => h, hb, kp, lk⟩
  | n + 1 => fun i s hs => by
    obtain ⟨fd, hb, kp, lk, h⟩ := hf i s hs
    exact ⟨fd, h n (allOk hf n), hb, kp, lk⟩
/-- the law's own call -/
theorem law_sp {D : Dm} {C : Calls} {f : Nat} {H : Hp} {a : Addr} {ns : List Int} (h : C f [.obj 0 (ns.map .int)] = .ok (.bl true) []) (hS : SqL D.K H a (ns.map V.int)) : spF D C f [false] [0] 0 [.ref a] H (fun v _ => v = .bl true) (fun _ _ _ => False) := by
  refine ⟨[.obj 0 (ns.map .int)], H, fun _ => [], ⟨fun i x q => ?_, fun _ _ => rfl, fun _ _ e => e, fun _ _ h => (nomatch h), fun _ => List.Pairwise.nil, fun _ _ _ h => (nomatch h), rfl⟩, rfl, ?_⟩
  · cases i with
    | zero =>
      cases q
      exact ⟨_, rfl, OwnR.zero.mpr ⟨rfl, a, _, rfl, hS, RepVs.ofInts ns⟩⟩
    | succ i => simp [getV] at q
  · rw [h]
    intro env v H' G Fp _ _ _ ⟨F, t, _⟩
    exact (OwnR.zero.mp t.own).2
end Ev

/-! Ev13: plain reckoning: rules for the evaluator, and the defs that every law brings. -/
namespace Ev
theorem grd_pos {α : Type} {p : Prop} [Decidable p] {a : α} (h : p) : grd p a = some a := if_pos h
@[simp] theorem R.bind_ok' {α β : Type} (a : α) (env : Env) (f : α → Env → R β) : (R.ok a env).bind f = f a env := rfl
@[simp] theorem R.bind_ex' {α β : Type} (c : Nat) (env : Env) (f : α → Env → R β) : (R.ex c env).bind f = .ex c env := rfl
@[simp] theorem R.of_some {α : Type} (a : α) (env : Env) : R.of (some a) env = .ok a env := rfl
@[simp] theorem R.then_ok {α : Type} (a : α) (env : Env) (f : α → Env → O) : (R.ok a env).then f = f a env := rfl
@[simp] theorem R.then_ex {α : Type} (c : Nat) (env : Env) (f : α → Env → O) : (R.ex c env).then f = .ex c env := rfl
@[simp] theorem O.then_nx (env : Env) (f : Env → O) : (O.nx env).then f = f env := rfl
@[simp] theorem O.then_rt (v : PV) (env : Env) (f : Env → O) : (O.rt v env).then f = .rt v env := rfl
@[simp] theorem O.then_ex (c : Nat) (env : Env) (f : Env → O) : (O.ex c env).then f = .ex c env := rfl
@[simp] theorem O.then_ct (env : Env) (f : Env → O) : (O.ct env).then f = .ct env := rfl
@[simp] theorem O.then_bk (env : Env) (f : Env → O) : (O.bk env).then f = .bk env := rfl
@[simp] theorem getV0 (a : Option PV) (r : Env) : getV (a :: r) 0 = a := by cases a <;> rfl
@[simp] theorem getVs (a : Option PV) (r : Env) (n : Nat) : getV (a :: r) (n + 1) = getV r n := rfl
@[simp] theorem tst_ok (v : PV) (env : Env) : tst (.ok v env) = R.of (truth v) env := rfl
@[simp] theorem tst_ex (c : Nat) (env : Env) : tst (.ex c env) = .ex c env := rfl
@[simp] theorem getIs_map : ∀ l : List Int, getIs (l.map .int) = some l
  | [] => rfl
  | x :: l => by simp [getIs, getIs_map l]
theorem small_of {i : Int} (h1 : -18446744073709551616 < i) (h2 : i < 18446744073709551616) : small i := ⟨h1, h2⟩
/-! ### the rules, one a form; loops and comprehensions keep their bodies shut -/
def bodyF (C : Calls) (tg : TG) (b : List CS) (x : PV) (e2 : Env) : O := match setTG tg x e2 with
  | some e3 => exSs C b e3
  | none => .st
def whlF (C : Calls) (c : CE) (b : List CS) (n : Nat) (env : Env) : O := whileN (fun e1 => evT C c e1) (fun e1 => exSs C b e1) n env
def compF (C : Calls) (own : List Nat) (tg : TG) (ifs : Option CE) (e : CE) (x : PV) (e2 : Env) : R (Option PV) := match setTG tg x (wipeE e2 own) with
  | some e3 => (evC C ifs e3).bind fun t e4 => if t then (evE C e e4).bind fun v e5 => .ok (some v) e5 else .ok none e4
  | none => .st
def rng1 : PV → Option (List PV)
  | .int n => grd (inR n) (rangeI 0 1 n.toNat)
  | _ => none
def rng2 : PV → PV → Option (List PV)
  | .int i, .int j => grd (inR i ∧ inR j) (rangeI i 1 (j - i).toNat)
  | _, _ => none
@[simp] theorem R.of_none {α : Type} (env : Env) : R.of (none : Option α) env = .st := rfl
theorem rng1_ok {n : Int} (h : inR n) : rng1 (.int n) = some (rangeI 0 1 n.toNat) := grd_pos h
theorem rng2_ok {i j : Int} (h : inR i) (h' : inR j) : rng2 (.int i) (.int j) = some (rangeI i 1 (j - i).toNat) := grd_pos ⟨h, h'⟩
theorem inR_len {n : Nat} (hl : n ≤ SZ) : inR (n : Int) := ⟨Int.le_trans (by decide) (Int.natCast_nonneg n), Int.lt_of_le_of_lt (Int.ofNat_le.mpr hl) (by decide)⟩
theorem inR_of {n : Int} (h0 : -1000000000000 ≤ n) (h : n ≤ 1000000000000) : inR n := ⟨Int.le_trans (by decide) h0, Int.lt_of_le_of_lt h (by decide)⟩
section
variable {C : Calls} {env : Env} {a b c : CE} {i : Nat}
@[simp] theorem e_non : evE C .non env = .ok .non env := rfl
@[simp] theorem e_bl {x : Bool} : evE C (.bl x) env = .ok (.bl x) env := rfl
@[simp] theorem e_int {x : Int} : evE C (.int x) env = .ok (.int x) env := rfl
@[simp] theorem e_str {x : List Nat} : evE C (.str x) env = .ok (.str x) env := rfl
@[simp] theorem e_var : evE C (.var i) env = R.of (getV env i) env := rfl
@[simp] theorem e_bv : evE C (.bv i) env = R.of (getV env i) env := rfl
@[simp] theorem e_gl {v : PV} : evE C (.gl i v) env = .ok v env := rfl
@[simp] theorem e_bin {op : BO} : evE C (.bin op a b) env = (evE C a env).bind fun x e1 => (evE C b e1).bind fun y e2 => R.of (bop op x y) e2 := rfl
@[simp] theorem e_neg : evE C (.neg a) env = (evE C a env).bind fun x e1 => R.of (match x with
    | .int i => some (.int (-i))
    | _ => none) e1 := rfl
@[simp] theorem e_nt : evE C (.nt a) env = (tst (evE C a env)).bind fun b e1 => .ok (.bl (!b)) e1 := rfl
@[simp] theorem e_an : evE C (.an a b) env = (evE C a env).bind fun x e1 => match truth x with
    | some true => evE C b e1
    | some false => .ok x e1
    | none => .st := rfl
@[simp] theorem e_or : evE C (.or a b) env = (evE C a env).bind fun x e1 => match truth x with
    | some true => .ok x e1
    | some false => evE C b e1
    | none => .st := rfl
@[simp] theorem e_cmp {op : CO} : evE C (.cmp op a b) env = (evE C a env).bind fun x e1 => (evE C b e1).bind fun y e2 => R.of ((cop op x y).map .bl) e2 := rfl
@[simp] theorem e_chn {o1 o2 : CO} : evE C (.chn o1 o2 a b c) env = (evE C a env).bind fun x e1 => (evE C b e1).bind fun y e2 => match cop o1 x y with
    | some true => (evE C c e2).bind fun z e3 => R.of ((cop o2 y z).map .bl) e3
    | some false => .ok (.bl false) e2
    | none => .st := rfl
@[simp] theorem e_ite : evE C (.ite c a b) env = (tst (evE C c env)).bind fun t e1 => if t then evE C a e1 else evE C b e1 := rfl
@[simp] theorem e_lst {es : List CE} : evE C (.lst i es) env = (evEs C es env).bind fun vs e1 => .ok (.lst vs) e1 := rfl
@[simp] theorem e_tup {es : List CE} : evE C (.tup es) env = (evEs C es env).bind fun vs e1 => .ok (.tup vs) e1 := rfl
@[simp] theorem e_idx : evE C (.idx a b) env = (evE C a env).bind fun x e1 => (evE C b e1).bind fun y e2 => R.of (idx x y) e2 := rfl
@[simp] theorem e_sl {lo hi : Option CE} : evE C (.sl a lo hi) env = (evE C a env).bind fun x e1 => (evO C lo e1).bind fun l e2 => (evO C hi e2).bind fun h e3 => R.of (slc x l h) e3 := rfl
@[simp] theorem e_rev : evE C (.rev a) env = (evE C a env).bind fun x e1 => R.of (revB x) e1 := rfl
@[simp] theorem e_call {as : List CE} : evE C (.call i as) env = (evA C as env).bind fun as' e1 => doCall C i as' e1 := rfl
@[simp] theorem e_call0 : evE C (.call0 i) env = noX (doCall C i [] env) := rfl
@[simp] theorem e_callv {fs : List Nat} {as : List CE} : evE C (.callv fs a as) env = (evE C a env).bind fun v e1 => match v with
    | .fn i => if fs.contains i then (evA C as e1).bind fun as' e2 => doCall C i as' e2 else .st
    | _ => .st := rfl
@[simp] theorem nox_ok {α : Type} {x : α} : noX (R.ok x env) = .ok x env := rfl
@[simp] theorem e_b1 {q : B1} : evE C (.b1 q a) env = (evE C a env).bind fun x e1 => R.of (b1 q x) e1 := rfl
@[simp] theorem e_b2 {q : B2} : evE C (.b2 q a c) env = (evE C a env).bind fun x e1 => (evE C c e1).bind fun y e2 => R.of (b2 q x y) e2 := rfl
@[simp] theorem e_isi {t : Ty} : evE C (.isi a t) env = (evE C a env).bind fun x e1 => if hasKind x then .ok (.bl (isTy t x)) e1 else .st := rfl
@[simp] theorem e_m1 {m : M1} : evE C (.m1 m a b) env = (evE C a env).bind fun x e1 => if m1Ty m x then (evE C b e1).bind fun y e2 => R.of (m1 m x y) e2 else .st := rfl
@[simp] theorem e_lrg {it : CI} : evE C (.lrg it) env = (evI C it env).bind fun xs e1 => if xs.length ≤ SZ then .ok (.lst xs) e1 else .st := rfl
theorem e_cp {d : Nat} {own : List Nat} {tg : TG} {it : CI} {ifs : Option CE} : evE C (.cp d own tg it ifs c) env = (evI C it env).bind fun xs e1 => (noX (compL (compF C own tg ifs c) xs e1)).bind fun vs e6 => if vs.length ≤ SZ then .ok (.lst vs) (backE e1 e6 own) else .st := rfl
@[simp] theorem es_nil : evEs C [] env = .ok [] env := rfl
@[simp] theorem es_cons {es : List CE} : evEs C (a :: es) env = (evE C a env).bind fun v e1 => (evEs C es e1).bind fun vs e2 => .ok (v :: vs) e2 := rfl
@[simp] theorem ea_nil : evA C [] env = .ok [] env := rfl
@[simp] theorem ea_io {es : List CE} : evA C (.io i :: es) env = (R.of (getV env i) env).bind fun _ e1 => (evA C es e1).bind fun vs e2 => .ok (.io i :: vs) e2 := rfl
def notIoB : CE → Bool
  | .io _ => false
  | .bv _ => false
  | _ => true
theorem ea_v {es : List CE} (h : notIoB a = true) : evA C (a :: es) env = (evE C a env).bind fun v e1 => (evA C es e1).bind fun vs e2 => .ok (.v v :: vs) e2 := by
  cases a <;> first | rfl | cases h
@[simp] theorem ea_non  {es : List CE} : evA C (.non  :: es) env = (evE C (.non ) env).bind fun v e1 => (evA C es e1).bind fun vs e2 => .ok (.v v :: vs) e2 := rfl
@[simp] theorem ea_bl (x : Bool) {es : List CE} : evA C (.bl x :: es) env = (evE C (.bl x) env).bind fun v e1 => (evA C es e1).bind fun vs e2 => .ok (.v v :: vs) e2 := rfl
@[simp] theorem ea_int (x : Int) {es : List CE} : evA C (.int x :: es) env = (evE C (.int x) env).bind fun v e1 => (evA C es e1).bind fun vs e2 => .ok (.v v :: vs) e2 := rfl
@[simp] theorem ea_str (x : List Nat) {es : List CE} : evA C (.str x :: es) env = (evE C (.str x) env).bind fun v e1 => (evA C es e1).bind fun vs e2 => .ok (.v v :: vs) e2 := rfl
@[simp] theorem ea_var (x : Nat) {es : List CE} : evA C (.var x :: es) env = (evE C (.var x) env).bind fun v e1 => (evA C es e1).bind fun vs e2 => .ok (.v v :: vs) e2 := rfl
@[simp] theorem ea_gl (x : Nat) (y : PV) {es : List CE} : evA C (.gl x y :: es) env = (evE C (.gl x y) env).bind fun v e1 => (evA C es e1).bind fun vs e2 => .ok (.v v :: vs) e2 := rfl
@[simp] theorem ea_bin (o : BO) (x y : CE) {es : List CE} : evA C (.bin o x y :: es) env = (evE C (.bin o x y) env).bind fun v e1 => (evA C es e1).bind fun vs e2 => .ok (.v v :: vs) e2 := rfl
@[simp] theorem ea_neg (x : CE) {es : List CE} : evA C (.neg x :: es) env = (evE C (.neg x) env).bind fun v e1 => (evA C es e1).bind fun vs e2 => .ok (.v v :: vs) e2 := rfl
@[simp] theorem ea_nt (x : CE) {es : List CE} : evA C (.nt x :: es) env = (evE C (.nt x) env).bind fun v e1 => (evA C es e1).bind fun vs e2 => .ok (.v v :: vs) e2 := rfl
@[simp] theorem ea_an (x y : CE) {es : List CE} : evA C (.an x y :: es) env = (evE C (.an x y) env).bind fun v e1 => (evA C es e1).bind fun vs e2 => .ok (.v v :: vs) e2 := rfl
@[simp] theorem ea_or (x y : CE) {es : List CE} : evA C (.or x y :: es) env = (evE C (.or x y) env).bind fun v e1 => (evA C es e1).bind fun vs e2 => .ok (.v v :: vs) e2 := rfl
@[simp] theorem ea_cmp (o : CO) (x y : CE) {es : List CE} : evA C (.cmp o x y :: es) env = (evE C (.cmp o x y) env).bind fun v e1 => (evA C es e1).bind fun vs e2 => .ok (.v v :: vs) e2 := rfl
@[simp] theorem ea_chn (o p : CO) (x y z : CE) {es : List CE} : evA C (.chn o p x y z :: es) env = (evE C (.chn o p x y z) env).bind fun v e1 => (evA C es e1).bind fun vs e2 => .ok (.v v :: vs) e2 := rfl
@[simp] theorem ea_ite (x y z : CE) {es : List CE} : evA C (.ite x y z :: es) env = (evE C (.ite x y z) env).bind fun v e1 => (evA C es e1).bind fun vs e2 => .ok (.v v :: vs) e2 := rfl
@[simp] theorem ea_lst (d : Nat) (x : List CE) {es : List CE} : evA C (.lst d x :: es) env = (evE C (.lst d x) env).bind fun v e1 => (evA C es e1).bind fun vs e2 => .ok (.v v :: vs) e2 := rfl
@[simp] theorem ea_tup (x : List CE) {es : List CE} : evA C (.tup x :: es) env = (evE C (.tup x) env).bind fun v e1 => (evA C es e1).bind fun vs e2 => .ok (.v v :: vs) e2 := rfl
@[simp] theorem ea_idx (x y : CE) {es : List CE} : evA C (.idx x y :: es) env = (evE C (.idx x y) env).bind fun v e1 => (evA C es e1).bind fun vs e2 => .ok (.v v :: vs) e2 := rfl
@[simp] theorem ea_sl (x : CE) (y z : Option CE) {es : List CE} : evA C (.sl x y z :: es) env = (evE C (.sl x y z) env).bind fun v e1 => (evA C es e1).bind fun vs e2 => .ok (.v v :: vs) e2 := rfl
@[simp] theorem ea_rev (x : CE) {es : List CE} : evA C (.rev x :: es) env = (evE C (.rev x) env).bind fun v e1 => (evA C es e1).bind fun vs e2 => .ok (.v v :: vs) e2 := rfl
@[simp] theorem ea_call (f : Nat) (x : List CE) {es : List CE} : evA C (.call f x :: es) env = (evE C (.call f x) env).bind fun v e1 => (evA C es e1).bind fun vs e2 => .ok (.v v :: vs) e2 := rfl
@[simp] theorem ea_b1 (q : B1) (x : CE) {es : List CE} : evA C (.b1 q x :: es) env = (evE C (.b1 q x) env).bind fun v e1 => (evA C es e1).bind fun vs e2 => .ok (.v v :: vs) e2 := rfl
@[simp] theorem ea_b2 (q : B2) (x y : CE) {es : List CE} : evA C (.b2 q x y :: es) env = (evE C (.b2 q x y) env).bind fun v e1 => (evA C es e1).bind fun vs e2 => .ok (.v v :: vs) e2 := rfl
@[simp] theorem ea_isi (x : CE) (t : Ty) {es : List CE} : evA C (.isi x t :: es) env = (evE C (.isi x t) env).bind fun v e1 => (evA C es e1).bind fun vs e2 => .ok (.v v :: vs) e2 := rfl
@[simp] theorem ea_m1 (m : M1) (x y : CE) {es : List CE} : evA C (.m1 m x y :: es) env = (evE C (.m1 m x y) env).bind fun v e1 => (evA C es e1).bind fun vs e2 => .ok (.v v :: vs) e2 := rfl
@[simp] theorem ea_lrg (x : CI) {es : List CE} : evA C (.lrg x :: es) env = (evE C (.lrg x) env).bind fun v e1 => (evA C es e1).bind fun vs e2 => .ok (.v v :: vs) e2 := rfl
@[simp] theorem ea_cp (d : Nat) (o : List Nat) (t : TG) (x : CI) (y : Option CE) (z : CE) {es : List CE} : evA C (.cp d o t x y z :: es) env = (evE C (.cp d o t x y z) env).bind fun v e1 => (evA C es e1).bind fun vs e2 => .ok (.v v :: vs) e2 := rfl
@[simp] theorem ea_mv (x : Nat) {es : List CE} : evA C (.mv x :: es) env = (evE C (.mv x) env).bind fun v e1 => (evA C es e1).bind fun vs e2 => .ok (.v v :: vs) e2 := rfl
@[simp] theorem eo_none : evO C none env = .ok none env := rfl
@[simp] theorem eo_some : evO C (some a) env = (evE C a env).bind fun v e1 => match v with
    | .int i => .ok (some i) e1
    | _ => .st := rfl
@[simp] theorem ec_none : evC C none env = .ok true env := rfl
@[simp] theorem ec_some : evC C (some a) env = tst (evE C a env) := rfl
@[simp] theorem ei_of {k : Nat} : evI C (.of k a) env = (evE C a env).bind fun v e1 => R.of (v.items k) e1 := rfl
@[simp] theorem ei_r1 : evI C (.r1 a) env = (evE C a env).bind fun v e1 => R.of (rng1 v) e1 := by
  show (evE C a env).bind _ = _
  congr 1
  funext v e1
  cases v <;> simp [rng1]
  rename_i n
  by_cases h : inR n <;> simp [grd, h]
@[simp] theorem ei_r2 : evI C (.r2 a b) env = (evE C a env).bind fun v e1 => (evE C b e1).bind fun u e2 => R.of (rng2 v u) e2 := by
  show (evE C a env).bind _ = _
  congr 1
  funext v e1
  congr 1
  funext u e2
  cases v <;> cases u <;> simp [rng2]
  rename_i i j
  by_cases h : inR i ∧ inR j <;> simp [grd, h]
@[simp] theorem x_ex : exS C (.ex a) env = (evE C a env).then fun _ e1 => .nx e1 := rfl
@[simp] theorem x_set : exS C (.set i a) env = (evE C a env).then fun v e1 => .nx (e1.set i (some v)) := rfl
@[simp] theorem x_setT {is : List Nat} : exS C (.setT is a) env = (evE C a env).then fun v e1 => match setTG (.tp is) v e1 with
    | some e2 => .nx e2
    | none => .st := rfl
@[simp] theorem x_par {is : List Nat} {es : List CE} : exS C (.par is es) env = (evEs C es env).then fun vs e1 => match setMany is vs e1 with
    | some e2 => .nx e2
    | none => .st := rfl
@[simp] theorem x_sto {p : List CE} : exS C (.sto i p a) env = (evE C a env).then fun v e1 => match getV e1 i with
    | some _ => (evEs C p e1).then fun q e2 => (match q.reverse with
      | k :: r => onSlot i (onPath (storeV k v) r.reverse) e2
      | [] => .st)
    | none => .st := rfl
@[simp] theorem x_sto2 {k l : CE} : exS C (.sto2 i k l a) env = (evE C a env).then fun v e1 => match getV e1 i with
    | some _ => (evE C k e1).then fun kv e2 => (match getV e2 i with
      | some x => (match idxL x kv with
        | some (.lst _) => (evE C l e2).then fun lv e3 => onSlot i (onPath (storeV lv v) [kv]) e3
        | _ => .st)
      | none => .st)
    | none => .st := rfl
@[simp] theorem x_app1 {k : CE} : exS C (.app1 i k a) env = (match getV env i with
    | some _ => (evE C k env).then fun kv e1 => (match getV e1 i with
      | some x => (match idxL x kv with
        | some (.lst _) => (evE C a e1).then fun v e2 => onSlot i (onPath (appV v) [kv]) e2
        | _ => .st)
      | none => .st)
    | none => .st) := rfl
@[simp] theorem x_augS {k : CE} {op : BO} : exS C (.augS i k op a) env = (match getV env i with
    | some _ => (evE C k env).then fun k e1 => (match getV e1 i with
      | some x => (match idxL x k with
        | some y => (evE C a e1).then fun v e2 => (match aop op y v with
          | some z => onSlot i (storeV k z) e2
          | none => .st)
        | none => .st)
      | none => .st)
    | none => .st) := rfl
@[simp] theorem x_app {p : List CE} : exS C (.app i p a) env = (evEs C p env).then fun q e1 => match getV e1 i with
    | some x => (match atPath q x with
      | some (.lst _) => (evE C a e1).then fun v e2 => onSlot i (onPath (appV v) q) e2
      | _ => .st)
    | none => .st := rfl
@[simp] theorem x_rvs : exS C (.rvs i) env = onSlot i revv env := rfl
@[simp] theorem revB_l {x : List PV} : revB (.lst x) = some (.lst x.reverse) := rfl
@[simp] theorem revB_s {x : List Nat} : revB (.str x) = some (.str x.reverse) := rfl
@[simp] theorem revv_l {x : List PV} : revv (.lst x) = some (.lst x.reverse) := rfl
@[simp] theorem x_aug {op : BO} : exS C (.aug i op a) env = (match getV env i with
    | some x => (evE C a env).then fun v e1 => (match aop op x v with
      | some y => .nx (e1.set i (some y))
      | none => .st)
    | none => .st) := rfl
@[simp] theorem x_ret : exS C (.ret a) env = (evE C a env).then fun v e1 => .rt v e1 := rfl
@[simp] theorem x_retN : exS C .retN env = .rt .non env := rfl
@[simp] theorem x_ite {s t : List CS} : exS C (.ite c s t) env = (tst (evE C c env)).then fun t1 e1 => if t1 then exSs C s e1 else exSs C t e1 := rfl
theorem x_whl {s : List CS} : exS C (.whl c s) env = whlF C c s FUEL env := rfl
theorem whl_stop {s : List CS} {n : Nat} {e : Env} (h : tst (evE C c env) = .ok false e) : whlF C c s (n + 1) env = .nx e := by
  unfold whlF
  rw [whileN, show evT C c env = _ from h]
theorem whl_nx {s : List CS} {n : Nat} {e e2 : Env} (h : tst (evE C c env) = .ok true e) (h2 : exSs C s e = .nx e2) : whlF C c s (n + 1) env = whlF C c s n e2 := by
  unfold whlF
  rw [whileN, show evT C c env = _ from h]
  dsimp only
  rw [h2]
theorem x_fr {tg : TG} {it : CI} {s : List CS} : exS C (.fr tg it s) env = (evI C it env).then fun xs e1 => forL (bodyF C tg s) xs e1 := rfl
@[simp] theorem x_raise : exS C (.raise i) env = .ex i env := rfl
theorem x_try {s : List CS} {hs : List (List Nat × List Nat × List CS)} : exS C (.try s hs) env = (match exSs C s env with
    | .ex c e1 => exHs C c hs e1
    | r => r) := rfl
@[simp] theorem xh_nil {k : Nat} : exHs C k [] env = .ex k env := rfl
@[simp] theorem xh_cons {k : Nat} {cs ns : List Nat} {s : List CS} {r : List (List Nat × List Nat × List CS)} : exHs C k ((cs, ns, s) :: r) env = if cs.contains k then noXO (exSs C s env) else if ns.contains k then exHs C k r env else .st := rfl
@[simp] theorem nxo_rt {v : PV} : noXO (.rt v env) = .rt v env := rfl
@[simp] theorem nxo_nx : noXO (.nx env) = .nx env := rfl
@[simp] theorem x_pass : exS C .pass env = .nx env := rfl
@[simp] theorem x_brk : exS C .brk env = .bk env := rfl
@[simp] theorem x_cnt : exS C .cnt env = .ct env := rfl
@[simp] theorem xs_nil : exSs C [] env = .nx env := rfl
@[simp] theorem xs_cons {s : CS} {r : List CS} : exSs C (s :: r) env = (exS C s env).then fun e1 => exSs C r e1 := rfl
@[simp] theorem bop_add {i j : Int} : bop .add (.int i) (.int j) = some (.int (i + j)) := rfl
@[simp] theorem bop_sub {i j : Int} : bop .sub (.int i) (.int j) = some (.int (i - j)) := rfl
@[simp] theorem bop_mul {i j : Int} : bop .mul (.int i) (.int j) = grd (small i ∨ small j) (.int (i * j)) := rfl
@[simp] theorem bop_fdiv {i j : Int} : bop .fdiv (.int i) (.int j) = grd (0 < j ∧ j < 18446744073709551616) (.int (i / j)) := rfl
@[simp] theorem bop_mod {i j : Int} : bop .mod (.int i) (.int j) = grd (0 < j) (.int (i % j)) := rfl
@[simp] theorem bop_pow {i j : Int} : bop .pow (.int i) (.int j) = grd (0 ≤ j ∧ j ≤ 1000000 ∧ small i) (.int (i ^ j.toNat)) := rfl
@[simp] theorem bop_addl {x y : List PV} : bop .add (.lst x) (.lst y) = grd (x.length + y.length ≤ SZ) (.lst (x ++ y)) := rfl
@[simp] theorem bop_adds {x y : List Nat} : bop .add (.str x) (.str y) = grd (x.length + y.length ≤ SZ) (.str (x ++ y)) := rfl
@[simp] theorem bop_mull {x : List PV} {k : Int} : bop .mul (.lst x) (.int k) = grd (small k ∧ -(2 ^ 63) ≤ k ∧ k < 2 ^ 63 ∧ x.length * k.toNat ≤ SZ) (.lst (List.replicate k.toNat x).flatten) := rfl
@[simp] theorem bop_muls {x : List Nat} {k : Int} : bop .mul (.str x) (.int k) = grd (0 ≤ k ∧ k < 2 ^ 63 ∧ x.length * k.toNat ≤ SZ) (.str (List.replicate k.toNat x).flatten) := rfl
@[simp] theorem aop_add {i j : Int} : aop .add (.int i) (.int j) = some (.int (i + j)) := rfl
@[simp] theorem aop_sub {i j : Int} : aop .sub (.int i) (.int j) = some (.int (i - j)) := rfl
theorem cop_eq {a b : PV} : cop .eq a b = eqD a b := by cases a <;> cases b <;> rfl
theorem cop_ne {a b : PV} : cop .ne a b = (eqD a b).map (!·) := by cases a <;> cases b <;> rfl
@[simp] theorem cop_eqi {i j : Int} : cop .eq (.int i) (.int j) = some (i == j) := rfl
@[simp] theorem cop_nei {i j : Int} : cop .ne (.int i) (.int j) = some (!(i == j)) := rfl
@[simp] theorem cop_eqs {i j : List Nat} : cop .eq (.str i) (.str j) = some (i == j) := rfl
@[simp] theorem cop_nes {i j : List Nat} : cop .ne (.str i) (.str j) = some (!(i == j)) := rfl
@[simp] theorem cop_eqb {i j : Bool} : cop .eq (.bl i) (.bl j) = some (i == j) := rfl
@[simp] theorem cop_lt {i j : Int} : cop .lt (.int i) (.int j) = some (decide (i < j)) := rfl
@[simp] theorem cop_le {i j : Int} : cop .le (.int i) (.int j) = some (decide (i ≤ j)) := rfl
@[simp] theorem cop_gt {i j : Int} : cop .gt (.int i) (.int j) = some (decide (j < i)) := rfl
@[simp] theorem cop_ge {i j : Int} : cop .ge (.int i) (.int j) = some (decide (j ≤ i)) := rfl
@[simp] theorem cop_lts {i j : List Nat} : cop .lt (.str i) (.str j) = some (ltS i j) := rfl
@[simp] theorem cop_les {i j : List Nat} : cop .le (.str i) (.str j) = some (!ltS j i) := rfl
@[simp] theorem cop_is {a : PV} : cop .is a .non = some a.isNon := by cases a <;> rfl
@[simp] theorem cop_isn {a : PV} : cop .isn a .non = some (!a.isNon) := by cases a <;> rfl
@[simp] theorem b1_lenl {x : List PV} : b1 .len (.lst x) = some (.int x.length) := rfl
@[simp] theorem b1_lent {x : List PV} : b1 .len (.tup x) = some (.int x.length) := rfl
@[simp] theorem b1_lens {x : List Nat} : b1 .len (.str x) = some (.int x.length) := rfl
@[simp] theorem b1_sum {l : List Int} : b1 .sum (.lst (l.map .int)) = some (.int l.sum) := by simp [b1]
@[simp] theorem b1_abs {j : Int} : b1 .abs (.int j) = some (.int (if j < 0 then -j else j)) := rfl
@[simp] theorem b1_list {x : List PV} : b1 .list (.lst x) = some (.lst x) := rfl
@[simp] theorem b1_lists {x : List Nat} : b1 .list (.str x) = some (.lst (x.map fun c => .str [c])) := rfl
@[simp] theorem b1_listt {x : List PV} : b1 .list (.tup x) = some (.lst x) := rfl
@[simp] theorem b1_tuple {x : List PV} : b1 .tuple (.lst x) = some (.tup x) := rfl
@[simp] theorem idx_l {x : List PV} {j : Int} : idx (.lst x) (.int j) = pix x j := rfl
@[simp] theorem idxL_l {x : List PV} {j : Int} : idxL (.lst x) (.int j) = pix x j := rfl
@[simp] theorem idx_t {x : List PV} {j : Int} : idx (.tup x) (.int j) = pix x j := rfl
@[simp] theorem idx_s {x : List Nat} {j : Int} : idx (.str x) (.int j) = (pix x j).map fun c => .str [c] := rfl
@[simp] theorem truth_bl {x : Bool} : truth (.bl x) = some x := rfl
@[simp] theorem truth_int {x : Int} : truth (.int x) = some (x != 0) := rfl
@[simp] theorem truth_lst {x : List PV} : truth (.lst x) = some (!x.isEmpty) := rfl
@[simp] theorem truth_tup {x : List PV} : truth (.tup x) = some (!x.isEmpty) := rfl
@[simp] theorem truth_str {x : List Nat} : truth (.str x) = some (!x.isEmpty) := rfl
@[simp] theorem truth_non : truth .non = some false := rfl
@[simp] theorem at_nil {x : PV} : atPath [] x = some x := rfl
@[simp] theorem on_nil {f : PV → Option PV} {x : PV} : onPath f [] x = f x := rfl
@[simp] theorem items0 {x : List PV} : PV.items 0 (.lst x) = some x := rfl
@[simp] theorem items1 {x : List PV} : PV.items 1 (.tup x) = some x := rfl
@[simp] theorem items2 {x : List Nat} : PV.items 2 (.str x) = some (x.map fun c => .str [c]) := rfl
@[simp] theorem items3 {x : List PV} : PV.items 3 (.obj i x) = some x := rfl
theorem app_ok {x : List PV} {v : PV} (h : x.length < SZ) : appV v (.lst x) = some (.lst (x ++ [v])) := grd_pos h
@[simp] theorem on_slot {f : PV → Option PV} : onSlot i f env = (match getV env i with
    | some x => (match f x with
      | some y => .nx (env.set i (some y))
      | none => .st)
    | none => .st) := rfl
@[simp] theorem set_nm {x : PV} : setTG (.nm i) x env = some (env.set i (some x)) := rfl
@[simp] theorem set_tp {is : List Nat} {x : List PV} : setTG (.tp is) (.tup x) env = setMany is x env := rfl
@[simp] theorem sm_nil : setMany [] [] env = some env := rfl
@[simp] theorem sm_cons {is : List Nat} {v : PV} {vs : List PV} : setMany (i :: is) (v :: vs) env = setMany is vs (env.set i (some v)) := rfl
@[simp] theorem av_nil' : avs env [] = some [] := rfl
@[simp] theorem av_cons {x : AV} {r : List AV} : avs env (x :: r) = (match x.get env, avs env r with
    | some x, some xs => some (x :: xs)
    | _, _ => none) := rfl
@[simp] theorem avg_v {x : PV} : AV.get env (.v x) = some x := rfl
@[simp] theorem avg_io : AV.get env (.io i) = getV env i := rfl
@[simp] theorem pb_nil : putB [] [] env = some env := rfl
@[simp] theorem pb_io {r : List AV} {v : PV} {vs : List PV} : putB (.io i :: r) (v :: vs) env = putB r vs (env.set i (some v)) := rfl
@[simp] theorem pb_v {r : List AV} {v : PV} {vs : List PV} : putB (.v v :: r) vs env = putB r vs env := by cases vs <;> rfl
@[simp] theorem hb_nil : hasB [] = false := rfl
@[simp] theorem hb_v {r : List AV} {v : PV} : hasB (.v v :: r) = hasB r := rfl
@[simp] theorem hb_io {r : List AV} : hasB (.io i :: r) = hasB r := rfl
@[simp] theorem do_call {as : List AV} : doCall C i as env = (match avs env as with
  | none => .st
  | some vs => match C i vs with
    | .ok v fin => (match putB as fin env with
      | some env' => if hasB as && !v.lf then .st else .ok v env'
      | none => .st)
    | .ex c fin => (match putB as fin env with
      | some env' => .ex c env'
      | none => .st)
    | .st => .st) := rfl
@[simp] theorem hk_l {x : List PV} : hasKind (.lst x) = true := rfl
@[simp] theorem hk_t {x : List PV} : hasKind (.tup x) = true := rfl
@[simp] theorem hk_s {x : List Nat} : hasKind (.str x) = true := rfl
@[simp] theorem hk_i {x : Int} : hasKind (.int x) = true := rfl
@[simp] theorem hk_b {x : Bool} : hasKind (.bl x) = true := rfl
@[simp] theorem hk_n : hasKind .non = true := rfl
@[simp] theorem fins_nil : fins env [] = some [] := rfl
@[simp] theorem fins_cons {is : List Nat} : fins env (i :: is) = (match getV env i, fins env is with
    | some x, some xs => some (x :: xs)
    | _, _ => none) := rfl
end
/-- the end of a def without in-out parameters -/
def outF0 : O → CR
  | .nx _ => .ok .non []
  | .rt v _ => .ok v []
  | .ex c _ => .ex c []
  | _ => .st
theorem runF0 {np ns rm : Nat} {ms : List Nat} {body : List CS} {C : Calls} {vs : List PV} (h : vs.length = np) : runF ⟨np, ns, ms, [], rm, body⟩ C vs = outF0 (exSs C body (vs.map some ++ List.replicate (ns - np) none)) := by
  unfold runF
  rw [if_pos h]
  dsimp only
  cases exSs C body (vs.map some ++ List.replicate (ns - np) none) <;> rfl
/-! ### loops -/
theorem forL_inv {f : PV → Env → O} (I : List PV → Env → Prop) (Rt : PV → Env → Prop)
    (step : ∀ x rest env, I (x :: rest) env → (∃ e, f x env = .nx e ∧ I rest e) ∨ (∃ e, f x env = .ct e ∧ I rest e) ∨ (∃ v e, f x env = .rt v e ∧ Rt v e)) :
    ∀ xs env, I xs env → (∃ e, forL f xs env = .nx e ∧ I [] e) ∨ (∃ v e, forL f xs env = .rt v e ∧ Rt v e)
  | [], env, h => .inl ⟨env, rfl, h⟩
  | x :: xs, env, h => by
    rcases step x xs env h with ⟨e, h1, h2⟩ | ⟨e, h1, h2⟩ | ⟨v, e, h1, h2⟩
    · rcases forL_inv I Rt step xs e h2 with ⟨e2, h3, h4⟩ | ⟨v, e2, h3, h4⟩
      · exact .inl ⟨e2, by rw [forL, h1]; exact h3, h4⟩
      · exact .inr ⟨v, e2, by rw [forL, h1]; exact h3, h4⟩
    · rcases forL_inv I Rt step xs e h2 with ⟨e2, h3, h4⟩ | ⟨v, e2, h3, h4⟩
      · exact .inl ⟨e2, by rw [forL, h1]; exact h3, h4⟩
      · exact .inr ⟨v, e2, by rw [forL, h1]; exact h3, h4⟩
    · exact .inr ⟨v, e, by rw [forL, h1], h2⟩
/-- a loop that never leaves early -/
theorem forL_nx {f : PV → Env → O} (I : List PV → Env → Prop) (step : ∀ x rest env, I (x :: rest) env → ∃ e, f x env = .nx e ∧ I rest e) :
    ∀ xs env, I xs env → ∃ e, forL f xs env = .nx e ∧ I [] e
  | [], env, h => ⟨env, rfl, h⟩
  | x :: xs, env, h => by
    obtain ⟨e, h1, h2⟩ := step x xs env h
    obtain ⟨e2, h3, h4⟩ := forL_nx I step xs e h2
    exact ⟨e2, by rw [forL, h1]; exact h3, h4⟩
theorem forL_append {f : PV → Env → O} : ∀ (xs ys : List PV) (env : Env), forL f (xs ++ ys) env = (match forL f xs env with
    | .nx e => forL f ys e
    | r => r) ∨ ∃ e, forL f xs env = .nx e ∧ True
  | [], ys, env => .inl rfl
  | x :: xs, ys, env => by
    rw [List.cons_append, forL, forL]
    cases f x env with
    | nx e => exact forL_append xs ys e
    | ct e => exact forL_append xs ys e
    | bk e => exact .inr ⟨e, rfl, trivial⟩
    | rt v e => exact .inl rfl
    | ex c e => exact .inl rfl
    | st => exact .inl rfl
/-- a comprehension whose every turn makes a value, the state along -/
theorem compL_map {f : PV → Env → R (Option PV)} (I : Env → Prop) (Pr : PV → PV → Prop) : ∀ (xs : List PV) (env : Env), I env → (∀ x env, x ∈ xs → I env → ∃ v e, f x env = .ok (some v) e ∧ Pr x v ∧ I e) →
    ∃ vs e, compL f xs env = .ok vs e ∧ I e ∧ vs.length = xs.length ∧ ∀ v, v ∈ vs → ∃ x, x ∈ xs ∧ Pr x v
  | [], env, h, _ => ⟨[], env, rfl, h, rfl, fun _ h => nomatch h⟩
  | x :: xs, env, h, st => by
    obtain ⟨v, e, h1, h2, h3⟩ := st x env (List.mem_cons_self ..) h
    obtain ⟨vs, e2, h4, h5, h6, h7⟩ := compL_map I Pr xs e h3 fun x env hx => st x env (List.mem_cons_of_mem _ hx)
    refine ⟨v :: vs, e2, by rw [compL, h1]; simp only [R.bind_ok']; rw [h4]; rfl, h5, by simp [h6], fun u hu => ?_⟩
    rcases List.mem_cons.mp hu with rfl | hu
    · exact ⟨x, List.mem_cons_self .., h2⟩
    · obtain ⟨y, hy, hp⟩ := h7 u hu
      exact ⟨y, List.mem_cons_of_mem _ hy, hp⟩
/-- one that sifts: what each turn gives is told by g, the state kept to I -/
theorem compL_filter {f : PV → Env → R (Option PV)} (I : Env → Prop) (g : PV → Option PV) : ∀ (xs : List PV) (env : Env), I env → (∀ x env, x ∈ xs → I env → ∃ e, f x env = .ok (g x) e ∧ I e) →
    ∃ e, compL f xs env = .ok (xs.filterMap g) e ∧ I e
  | [], env, h, _ => ⟨env, rfl, h⟩
  | x :: xs, env, h, st => by
    obtain ⟨e, h1, h3⟩ := st x env (List.mem_cons_self ..) h
    obtain ⟨e2, h4, h5⟩ := compL_filter I g xs e h3 fun x env hx => st x env (List.mem_cons_of_mem _ hx)
    refine ⟨e2, ?_, h5⟩
    rw [compL, h1]
    simp only [R.bind_ok']
    rw [h4]
    cases q : g x <;> simp [q]
theorem rangeI_mem : ∀ {n : Nat} {a : Int} {x : PV}, x ∈ rangeI a 1 n → ∃ i : Int, x = .int i ∧ a ≤ i ∧ i < a + n
  | 0, a, x, h => nomatch h
  | n + 1, a, x, h => by
    rcases List.mem_cons.mp h with rfl | h
    · exact ⟨a, rfl, Int.le_refl _, by omega⟩
    · obtain ⟨i, h1, h2, h3⟩ := rangeI_mem h
      exact ⟨i, h1, by omega, by omega⟩
theorem rangeI_length : ∀ (n : Nat) (a s : Int), (rangeI a s n).length = n
  | 0, _, _ => rfl
  | n + 1, a, s => by simp [rangeI, rangeI_length n]
theorem rangeI_at : ∀ (n i : Nat) (a s : Int), i < n → (rangeI a s n)[i]? = some (.int (a + i * s))
  | 0, i, a, s, h => by omega
  | n + 1, 0, a, s, h => by simp [rangeI]
  | n + 1, i + 1, a, s, h => by
    rw [rangeI, List.getElem?_cons_succ, rangeI_at n i (a + s) s (by omega)]
    congr 2
    rw [Int.natCast_succ, Int.add_mul]
    omega
/-! ### the draws -/
namespace Pre
def mixed : List CS := [.set 2 (.bin .mod (.bin .add (.bin .add (.bin .mul (.var 0) (.int 48271)) (.bin .mul (.var 1) (.int 69621))) (.int 12345)) (.int 2147483647)), .ret (.bin .mod (.bin .add (.bin .mul (.var 2) (.bin .add (.bin .fdiv (.var 2) (.int 65536)) (.int 3))) (.var 1)) (.int 2147483647))]
def mixF (n k : Int) : Int := (((n*48271 + k*69621 + 12345) % 2147483647) * (((n*48271 + k*69621 + 12345) % 2147483647) / 65536 + 3) + k) % 2147483647
theorem mixF_lo (n k : Int) : 0 ≤ mixF n k := Int.emod_nonneg _ (by decide)
theorem mixF_hi (n k : Int) : mixF n k < 2147483647 := Int.emod_lt_of_pos _ (by decide)
theorem mixed_spec (C : Calls) (n k : Int) : runF ⟨2, 3, [], [], 0, mixed⟩ C [.int n, .int k] = .ok (.int (mixF n k)) [] := by
  have h1 : small 48271 := by decide
  have h2 : small 69621 := by decide
  have h3 : small ((n*48271 + k*69621 + 12345) % 2147483647) := by
    unfold small; omega
  simp [runF, mixed, grd_pos, h1, h2, h3, mixF]
def numbers (m : Nat) : List CS := [.set 1 (.lst 1 []), .fr (.nm 2) (.of 3 (.var 0)) [.ite (.cmp .ge (.var 2) (.bin .pow (.int 10) (.int 18))) [.set 3 (.var 2), .fr (.nm 4) (.r1 (.int 60)) [.ite (.cmp .gt (.var 3) (.int 0)) [.app 1 [] (.bin .mod (.var 3) (.int 1000000)), .set 3 (.bin .fdiv (.var 3) (.int 1000000))] []]] [.app 1 [] (.bin .mod (.var 2) (.int 1000000)), .fr (.nm 4) (.r1 (.int 5)) [.app 1 [] (.bin .mod (.call m [(.call m [(.bin .mod (.var 2) (.int 2147483647)), (.var 4)]), (.bin .add (.var 4) (.int 7))]) (.int 1000000))]]], .ret (.var 1)]
/-- numbers below 1,000,000 -/
def Mil (l : List Int) : Prop := ∀ x, x ∈ l → 0 ≤ x ∧ x < 1000000
theorem Mil.snoc {l : List Int} {x : Int} (h : Mil l) (h1 : 0 ≤ x) (h2 : x < 1000000) : Mil (l ++ [x]) := fun y hy => by
  rcases List.mem_append.mp hy with hy | hy
  · exact h y hy
  · rw [List.mem_singleton] at hy; subst hy; exact ⟨h1, h2⟩
def MixAt (C : Calls) (m : Nat) : Prop := ∀ n k : Int, C m [.int n, .int k] = .ok (.int (mixF n k)) []
theorem numbers_spec {C : Calls} {m : Nat} (hm : MixAt C m) (ns : List Int) (hn : ns.length ≤ 63) : ∃ l, runF ⟨1, 5, [], [], 0, numbers m⟩ C [.obj 0 (ns.map .int)] = .ok (.lst (l.map .int)) [] ∧ Mil l ∧ l.length ≤ 4000 := by
  let sc : PV := .obj 0 (ns.map .int)
  let I : List PV → Env → Prop := fun rest env => ∃ (l : List Int) (o2 o3 o4 : Option PV), env = [some sc, some (.lst (l.map .int)), o2, o3, o4] ∧ Mil l ∧ l.length + 60 * rest.length ≤ 60 * 63 ∧ ∀ x, x ∈ rest → ∃ i, x = .int i
  have h10 : small (10 : Int) := by decide
  have key := forL_nx (f := bodyF C (.nm 2) [.ite (.cmp .ge (.var 2) (.bin .pow (.int 10) (.int 18))) [.set 3 (.var 2), .fr (.nm 4) (.r1 (.int 60)) [.ite (.cmp .gt (.var 3) (.int 0)) [.app 1 [] (.bin .mod (.var 3) (.int 1000000)), .set 3 (.bin .fdiv (.var 3) (.int 1000000))] []]] [.app 1 [] (.bin .mod (.var 2) (.int 1000000)), .fr (.nm 4) (.r1 (.int 5)) [.app 1 [] (.bin .mod (.call m [(.call m [(.bin .mod (.var 2) (.int 2147483647)), (.var 4)]), (.bin .add (.var 4) (.int 7))]) (.int 1000000))]]]) I (fun x rest env h => by
      obtain ⟨l, o2, o3, o4, rfl, hl, hlen, hx⟩ := h
      obtain ⟨i, rfl⟩ := hx x (List.mem_cons_self ..)
      simp only [List.length_cons] at hlen
      by_cases hi : (10 : Int) ^ 18 ≤ i
      · let I2 : List PV → Env → Prop := fun rest2 env => ∃ (l : List Int) (o4 : Option PV) (r : Int), env = [some sc, some (.lst (l.map .int)), some (.int i), some (.int r), o4] ∧ Mil l ∧ l.length + rest2.length + 60 * rest.length ≤ 60 * 63
        obtain ⟨e, h1, l', o4', r', h2, h3, h4⟩ := forL_nx (f := bodyF C (.nm 4) [.ite (.cmp .gt (.var 3) (.int 0)) [.app 1 [] (.bin .mod (.var 3) (.int 1000000)), .set 3 (.bin .fdiv (.var 3) (.int 1000000))] []]) I2 (fun x rest2 env h => by
            obtain ⟨l, o4, r, rfl, hl, hlen⟩ := h
            simp only [List.length_cons] at hlen
            by_cases hr : 0 < r
            · have hz : l.length < SZ := by show _ < 16777216; omega
              refine ⟨[some sc, some (.lst ((l ++ [r % 1000000]).map .int)), some (.int i), some (.int (r / 1000000)), some x], ?_, l ++ [r % 1000000], _, _, rfl, hl.snoc (Int.emod_nonneg _ (by decide)) (Int.emod_lt_of_pos _ (by decide)), by simp; omega⟩
              simp [bodyF, grd_pos, hr, app_ok, hz]
            · refine ⟨[some sc, some (.lst (l.map .int)), some (.int i), some (.int r), some x], ?_, l, _, _, rfl, hl, by omega⟩
              simp [bodyF, grd_pos, hr]) (rangeI 0 1 60) [some sc, some (.lst (l.map .int)), some (.int i), some (.int i), o4] ⟨l, o4, i, rfl, hl, by rw [rangeI_length]; omega⟩
        refine ⟨e, ?_, l', _, _, _, h2, h3, by simp at h4; omega, fun x hx' => hx x (List.mem_cons_of_mem _ hx')⟩
        have hR : inR 60 := by decide
        have hi' : (1000000000000000000 : Int) ≤ i := by simpa using hi
        simp [bodyF, x_fr, grd_pos, h10, hi', rng1_ok hR]
        rw [h1]
        rfl
      · have hz : l.length < SZ := by show _ < 16777216; omega
        let I2 : List PV → Env → Prop := fun rest2 env => ∃ (l : List Int) (o4 : Option PV), env = [some sc, some (.lst (l.map .int)), some (.int i), o3, o4] ∧ Mil l ∧ l.length + rest2.length + 60 * rest.length ≤ 60 * 63 ∧ ∀ x, x ∈ rest2 → ∃ i, x = .int i
        obtain ⟨e, h1, l', o4', h2, h3, h4, _⟩ := forL_nx (f := bodyF C (.nm 4) [.app 1 [] (.bin .mod (.call m [(.call m [(.bin .mod (.var 2) (.int 2147483647)), (.var 4)]), (.bin .add (.var 4) (.int 7))]) (.int 1000000))]) I2 (fun x rest2 env h => by
            obtain ⟨l, o4, rfl, hl, hlen, hx2⟩ := h
            simp only [List.length_cons] at hlen
            obtain ⟨k, rfl⟩ := hx2 x (List.mem_cons_self ..)
            have hz : l.length < SZ := by show _ < 16777216; omega
            refine ⟨[some sc, some (.lst ((l ++ [mixF (mixF (i % 2147483647) k) (k + 7) % 1000000]).map .int)), some (.int i), o3, some (.int k)], ?_, l ++ [mixF (mixF (i % 2147483647) k) (k + 7) % 1000000], _, rfl, hl.snoc (Int.emod_nonneg _ (by decide)) (Int.emod_lt_of_pos _ (by decide)), by simp; omega, fun x hx' => hx2 x (List.mem_cons_of_mem _ hx')⟩
            simp [bodyF, grd_pos, app_ok, hz, hm _ _]) (rangeI 0 1 5) [some sc, some (.lst ((l ++ [i % 1000000]).map .int)), some (.int i), o3, o4] ⟨l ++ [i % 1000000], o4, rfl, hl.snoc (Int.emod_nonneg _ (by decide)) (Int.emod_lt_of_pos _ (by decide)), by rw [rangeI_length]; simp; omega, fun x hx => by obtain ⟨i, h, _⟩ := rangeI_mem hx; exact ⟨i, h⟩⟩
        refine ⟨e, ?_, l', _, _, _, h2, h3, by simp at h4; omega, fun x hx' => hx x (List.mem_cons_of_mem _ hx')⟩
        have hR : inR 5 := by decide
        have hi' : ¬ (1000000000000000000 : Int) ≤ i := by simpa using hi
        simp [bodyF, x_fr, grd_pos, h10, hi', rng1_ok hR, app_ok, hz] at h1 ⊢
        rw [h1]
        rfl) (ns.map .int) [some sc, some (.lst []), none, none, none] ⟨[], none, none, none, rfl, fun _ h => (nomatch h), by simp; omega, fun x hx => by
          obtain ⟨i, _, h⟩ := List.mem_map.mp hx
          exact ⟨i, h.symm⟩⟩
  obtain ⟨e, h1, l, o2, o3, o4, rfl, hl, hlen, _⟩ := key
  refine ⟨l, ?_, hl, by simp at hlen; omega⟩
  have h2 : exSs C (numbers m) [some sc, none, none, none, none] = .rt (.lst (l.map .int)) [some sc, some (.lst (l.map .int)), o2, o3, o4] := by
    simp [numbers, x_fr, sc] at h1 ⊢
    rw [h1]
    simp
  simp [runF, h2, fins, sc] at h2 ⊢
  try rw [h2]
def draw (m : Nat) : List CS := [.set 1 (.idx (.bv 0) (.int 1)), .sto 0 [(.int 1)] (.bin .add (.var 1) (.int 1)), .ite (.cmp .lt (.var 1) (.b1 .len (.idx (.bv 0) (.int 0)))) [.ret (.idx (.idx (.bv 0) (.int 0)) (.var 1))] [], .set 2 (.bin .add (.int 1) (.var 1)), .ite (.cmp .gt (.b1 .len (.idx (.bv 0) (.int 0))) (.int 0)) [.set 2 (.bin .add (.var 2) (.bin .mul (.int 1009) (.idx (.idx (.bv 0) (.int 0)) (.int 0))))] [], .ret (.bin .mod (.call m [(.call m [(.var 2), (.var 1)]), (.int 5)]) (.int 1000000))]
/-- the numbers, and how many of them are drawn -/
theorem pix20 {α : Type} {a b : α} : pix [a, b] 0 = some a := rfl
theorem pix21 {α : Type} {a b : α} : pix [a, b] 1 = some b := rfl
def Draws (d : PV) : Prop := ∃ (l : List Int) (at_ : Int), d = .lst [.lst (l.map .int), .int at_] ∧ Mil l ∧ 0 ≤ at_
theorem draw_spec {C : Calls} {m : Nat} (hm : MixAt C m) {d : PV} (hd : Draws d) : ∃ (r : Int) (d' : PV), runF ⟨1, 3, [], [0], 0, draw m⟩ C [d] = .ok (.int r) [d'] ∧ 0 ≤ r ∧ r < 1000000 ∧ Draws d' := by
  obtain ⟨l, t, rfl, hl, ht⟩ := hd
  have hD : Draws (.lst [.lst (l.map .int), .int (t + 1)]) := ⟨l, t + 1, rfl, hl, by omega⟩
  have h1009 : small 1009 := by decide
  by_cases h : t < l.length
  · have hlt : t.toNat < l.length := by omega
    have e1 : pix (l.map PV.int) t = some (.int l[t.toNat]) := by
      unfold pix
      rw [if_pos ht, List.getElem?_map, List.getElem?_eq_getElem hlt]
      rfl
    have hr := hl _ (List.getElem_mem hlt)
    refine ⟨l[t.toNat], _, ?_, hr.1, hr.2, hD⟩
    simp [runF, draw, pix21, pix20, storeV, setAt, h, e1]
  · have hlo := Int.emod_nonneg (mixF (mixF (1 + t) t) 5) (show (1000000 : Int) ≠ 0 by decide)
    cases l with
    | nil =>
      refine ⟨mixF (mixF (1 + t) t) 5 % 1000000, _, ?_, Int.emod_nonneg _ (by decide), Int.emod_lt_of_pos _ (by decide), hD⟩
      simp at h
      simp [runF, draw, pix, storeV, setAt, grd_pos, hm _ _, show ¬ t < 0 by omega]
    | cons x r =>
      refine ⟨mixF (mixF (1 + t + 1009 * x) t) 5 % 1000000, _, ?_, Int.emod_nonneg _ (by decide), Int.emod_lt_of_pos _ (by decide), hD⟩
      simp at h
      have h2 : ¬ t < (r.length : Int) + 1 := by omega
      simp [runF, draw, pix, storeV, setAt, grd_pos, hm _ _, h2, h1009, show (0 : Int) < (r.length : Int) + 1 by omega]
/-! ### equal -/
def equal (ma : Nat) : List CS := [.ite (.isi (.var 1) .list) [.ret (.an (.isi (.var 0) .list) (.an (.cmp .eq (.b1 .len (.var 0)) (.b1 .len (.var 1))) (.call ma [(.var 0), (.var 1)])))] [], .ite (.isi (.var 1) .tuple) [.ret (.an (.isi (.var 0) .tuple) (.an (.cmp .eq (.b1 .len (.var 0)) (.b1 .len (.var 1))) (.call ma [(.var 0), (.var 1)])))] [], .ite (.isi (.var 1) .bool) [.ret (.an (.isi (.var 0) .bool) (.cmp .eq (.var 0) (.var 1)))] [], .ite (.isi (.var 1) .int) [.ret (.an (.isi (.var 0) .int) (.an (.nt (.isi (.var 0) .bool)) (.cmp .eq (.var 0) (.var 1))))] [], .ite (.isi (.var 1) .str) [.ret (.an (.isi (.var 0) .str) (.cmp .eq (.var 0) (.var 1)))] [], .ret (.cmp .is (.var 0) .non)]
def equal2 (ma : Nat) : List CS := [.ite (.isi (.var 1) .list) [.ite (.or (.nt (.isi (.var 0) .list)) (.cmp .ne (.b1 .len (.var 0)) (.b1 .len (.var 1)))) [.ret (.bl false)] [], .ret (.call ma [(.var 0), (.var 1)])] [], .ite (.isi (.var 1) .tuple) [.ite (.or (.nt (.isi (.var 0) .tuple)) (.cmp .ne (.b1 .len (.var 0)) (.b1 .len (.var 1)))) [.ret (.bl false)] [], .ret (.call ma [(.var 0), (.var 1)])] [], .ite (.isi (.var 1) .bool) [.ret (.an (.isi (.var 0) .bool) (.cmp .eq (.var 0) (.var 1)))] [], .ite (.isi (.var 1) .int) [.ret (.an (.isi (.var 0) .int) (.an (.nt (.isi (.var 0) .bool)) (.cmp .eq (.var 0) (.var 1))))] [], .ite (.isi (.var 1) .str) [.ret (.an (.isi (.var 0) .str) (.cmp .eq (.var 0) (.var 1)))] [], .ret (.cmp .is (.var 0) .non)]
def all_equal (me : Nat) : List CS := [.fr (.nm 2) (.r1 (.b1 .len (.var 1))) [.ite (.nt (.call me [(.idx (.var 0) (.var 2)), (.idx (.var 1) (.var 2))])) [.ret (.bl false)] []], .ret (.bl true)]
/-- the depth of a value that is compared; lists not too long -/
inductive Pl : Nat → PV → Prop
  | non {n} : Pl n .non
  | bl {n b} : Pl n (.bl b)
  | int {n i} : Pl n (.int i)
  | str {n s} : Pl n (.str s)
  | lst {n xs} : xs.length ≤ SZ → (∀ x, x ∈ xs → Pl n x) → Pl (n + 1) (.lst xs)
  | tup {n xs} : xs.length ≤ SZ → (∀ x, x ∈ xs → Pl n x) → Pl (n + 1) (.tup xs)
theorem all_spec {C : Calls} {me : Nat} {v : PV} {xs : List PV} (hv : v = .lst xs ∨ v = .tup xs) (hl : xs.length ≤ SZ) (h : ∀ x, x ∈ xs → C me [x, x] = .ok (.bl true) []) : runF ⟨2, 3, [], [], 0, all_equal me⟩ C [v, v] = .ok (.bl true) [] := by
  have hidx : ∀ j, idx v (.int j) = pix xs j := fun j => by rcases hv with rfl | rfl <;> rfl
  have hlen : b1 .len v = some (.int xs.length) := by rcases hv with rfl | rfl <;> rfl
  have hR : rng1 (.int xs.length) = some (rangeI 0 1 xs.length) := by
    rw [rng1_ok (inR_len hl)]
    rfl
  have key := forL_nx (f := bodyF C (.nm 2) [.ite (.nt (.call me [(.idx (.var 0) (.var 2)), (.idx (.var 1) (.var 2))])) [.ret (.bl false)] []])
    (fun rest env => (∃ o, env = [some v, some v, o]) ∧ ∀ x, x ∈ rest → ∃ (i : Int), x = .int i ∧ 0 ≤ i ∧ i < xs.length) (fun x rest env ⟨⟨o, he⟩, hx⟩ => by
      subst he
      obtain ⟨i, rfl, h0, h1⟩ := hx x (List.mem_cons_self ..)
      have hlt : i.toNat < xs.length := by omega
      have e1 : pix xs i = some xs[i.toNat] := by
        unfold pix
        rw [if_pos h0, List.getElem?_eq_getElem hlt]
      refine ⟨[some v, some v, some (.int i)], ?_, ⟨_, rfl⟩, fun x hx' => hx x (List.mem_cons_of_mem _ hx')⟩
      simp [bodyF, hidx, e1, h _ (List.getElem_mem hlt)]) (rangeI 0 1 xs.length) [some v, some v, none] ⟨⟨_, rfl⟩, fun x hx => by
        obtain ⟨i, h1, h2, h3⟩ := rangeI_mem hx
        exact ⟨i, h1, h2, by omega⟩⟩
  obtain ⟨e, h1, ⟨o, rfl⟩, _⟩ := key
  have h2 : exSs C (all_equal me) [some v, some v, none] = .rt (.bl true) [some v, some v, o] := by
    unfold all_equal
    rw [xs_cons, x_fr, ei_r1, e_b1, e_var, getVs, getV0, R.of_some, R.bind_ok', hlen, R.of_some, R.bind_ok', hR, R.of_some, R.then_ok, h1, O.then_nx]
    rfl
  exact (runF0 (vs := [v, v]) rfl).trans (congrArg outF0 h2)
theorem equal_spec {T : List FD} {me ma : Nat} {fd : FD} (he : T[me]? = some fd) (hfd : fd = ⟨2, 2, [], [], 0, equal ma⟩ ∨ fd = ⟨2, 2, [], [], 0, equal2 ma⟩) (ha : T[ma]? = some ⟨2, 3, [], [], 0, all_equal me⟩) :
    ∀ (d n : Nat) (v : PV), Pl d v → 2 * d + 1 ≤ n → callF T n me [v, v] = .ok (.bl true) []
  | d, 0, v, hv, hn => by omega
  | d, n + 1, v, hv, hn => by
    have e1 : callF T (n + 1) me [v, v] = runF fd (callF T n) [v, v] := by
      rw [callF, he]
    rw [e1]
    have inner : ∀ d' xs, d = d' + 1 → (v = .lst xs ∨ v = .tup xs) → xs.length ≤ SZ → (∀ x, x ∈ xs → Pl d' x) → callF T n ma [v, v] = .ok (.bl true) [] := fun d' xs hd hv' hl hx => by
      cases n with
      | zero => omega
      | succ n =>
        rw [callF, ha]
        exact all_spec hv' hl fun x hx' => equal_spec he hfd ha d' n x (hx x hx') (by omega)
    cases hv with
    | non => rcases hfd with rfl | rfl <;> simp [runF, equal, equal2, isTy, PV.isNon]
    | bl => rcases hfd with rfl | rfl <;> simp [runF, equal, equal2, isTy]
    | int => rcases hfd with rfl | rfl <;> simp [runF, equal, equal2, isTy]
    | str => rcases hfd with rfl | rfl <;> simp [runF, equal, equal2, isTy]
    | lst hl hx =>
      have := inner _ _ rfl (.inl rfl) hl hx
      rcases hfd with rfl | rfl <;> simp [runF, equal, equal2, isTy, this]
    | tup hl hx =>
      have := inner _ _ rfl (.inr rfl) hl hx
      rcases hfd with rfl | rfl <;> simp [runF, equal, equal2, isTy, this]
end Pre
end Ev

/-! Ev14: more plain rules: steps, draws with a bound, is_number, picks. -/
namespace Ev
theorem xs_step {C : Calls} {s : CS} {r : List CS} {env e : Env} (h : exS C s env = .nx e) : exSs C (s :: r) env = exSs C r e := by rw [xs_cons, h]; rfl
theorem xs_rt {C : Calls} {s : CS} {r : List CS} {env e : Env} {v : PV} (h : exS C s env = .rt v e) : exSs C (s :: r) env = .rt v e := by rw [xs_cons, h]; rfl
theorem md (r : Int) {m : Int} (h : 0 < m) : 0 ≤ r % m ∧ r % m < m := ⟨Int.emod_nonneg _ (by omega), Int.emod_lt_of_pos _ h⟩
theorem mem_c {p : PV → Prop} {a : PV} {l : List PV} (h : p a) (r : ∀ x, x ∈ l → p x) : ∀ x, x ∈ a :: l → p x := fun x hx => by
  rcases List.mem_cons.mp hx with rfl | hx
  · exact h
  · exact r x hx
theorem mem_n {p : PV → Prop} : ∀ x, x ∈ ([] : List PV) → p x := fun _ h => nomatch h
@[simp] theorem b2_min {i j : Int} : b2 .min (.int i) (.int j) = some (.int (if j < i then j else i)) := rfl
@[simp] theorem b2_max {i j : Int} : b2 .max (.int i) (.int j) = some (.int (if j > i then j else i)) := rfl
@[simp] theorem cop_neb {i j : Bool} : cop .ne (.bl i) (.bl j) = some (!(i == j)) := rfl
theorem pick2 (a b : PV) (r : Int) : ∃ m, pix [a, b] (r % 2) = some m ∧ (m = a ∨ m = b) := by
  have h := md r (m := 2) (by decide)
  have : r % 2 = 0 ∨ r % 2 = 1 := by omega
  rcases this with h | h <;> rw [h]
  · exact ⟨a, rfl, .inl rfl⟩
  · exact ⟨b, rfl, .inr rfl⟩
theorem pick3 (a b c : PV) (r : Int) : ∃ m, pix [a, b, c] (r % 3) = some m ∧ (m = a ∨ m = b ∨ m = c) := by
  have h := md r (m := 3) (by decide)
  have : r % 3 = 0 ∨ r % 3 = 1 ∨ r % 3 = 2 := by omega
  rcases this with h | h | h <;> rw [h]
  · exact ⟨a, rfl, .inl rfl⟩
  · exact ⟨b, rfl, .inr (.inl rfl)⟩
  · exact ⟨c, rfl, .inr (.inr rfl)⟩
/-- the item at a place within -/
theorem pix_in {α : Type} {xs : List α} {i : Int} (h0 : 0 ≤ i) (h : i < xs.length) : pix xs i = some (xs[i.toNat]'(by omega)) := by
  unfold pix
  rw [if_pos h0, List.getElem?_eq_getElem (by omega)]
/-- some item of a list, taken by a rest -/
theorem pick_mem {xs : List PV} (r : Int) {m : Int} (hm : m = xs.length) (h : 0 < m) : ∃ v, pix xs (r % m) = some v ∧ v ∈ xs := by
  have := md r h
  subst hm
  exact ⟨_, pix_in this.1 this.2, List.getElem_mem _⟩
@[simp] theorem slc_l {x : List PV} {lo hi : Option Int} : slc (.lst x) lo hi = some (.lst (cut x lo hi)) := rfl
@[simp] theorem slc_s {x : List Nat} {lo hi : Option Int} : slc (.str x) lo hi = some (.str (cut x lo hi)) := rfl
@[simp] theorem slc_t {x : List PV} {lo hi : Option Int} : slc (.tup x) lo hi = some (.tup (cut x lo hi)) := rfl
/-- a for as one step -/
theorem fr_ok {C : Calls} {tg : TG} {it : CI} {b : List CS} {env e1 : Env} {xs : List PV} {o : O} (h : evI C it env = .ok xs e1) (h2 : forL (bodyF C tg b) xs e1 = o) : exS C (.fr tg it b) env = o := by
  rw [x_fr, h, R.then_ok, h2]
theorem ei_r1_ok {C : Calls} {a : CE} {env e1 : Env} {n : Int} (h : evE C a env = .ok (.int n) e1) (hn : inR n) : evI C (.r1 a) env = .ok (rangeI 0 1 n.toNat) e1 := by
  rw [ei_r1, h, R.bind_ok', rng1_ok hn, R.of_some]
theorem ei_r2_ok {C : Calls} {a b : CE} {env e1 e2 : Env} {n m : Int} (h : evE C a env = .ok (.int n) e1) (h2 : evE C b e1 = .ok (.int m) e2) (hn : inR n) (hm : inR m) : evI C (.r2 a b) env = .ok (rangeI n 1 (m - n).toNat) e2 := by
  rw [ei_r2, h, R.bind_ok', h2, R.bind_ok', rng2_ok hn hm, R.of_some]
theorem ei_r3_ok {C : Calls} {a b : CE} {env e1 e2 : Env} {n m c : Int} (h : evE C a env = .ok (.int n) e1) (h2 : evE C b e1 = .ok (.int m) e2) (hn : inR n) (hm : inR m) (hc : c ≠ 0 ∧ -1000000 < c ∧ c < 1000000) : evI C (.r3 a b c) env = .ok (rangeI n c (rcount n m c)) e2 := by
  show ((evE C a env).bind fun v e1 => (evE C b e1).bind fun u e2 => _) = _
  rw [h, R.bind_ok', h2, R.bind_ok']
  exact if_pos ⟨⟨hn, hm⟩, hc⟩
/-- a comprehension as one step -/
theorem cp_ok {C : Calls} {d : Nat} {own : List Nat} {tg : TG} {it : CI} {ifs : Option CE} {e : CE} {env e1 e6 : Env} {xs vs : List PV} (h : evI C it env = .ok xs e1) (h2 : compL (compF C own tg ifs e) xs e1 = .ok vs e6) (hl : vs.length ≤ SZ) : evE C (.cp d own tg it ifs e) env = .ok (.lst vs) (backE e1 e6 own) := by
  rw [e_cp, h, R.bind_ok', h2, nox_ok, R.bind_ok', if_pos hl]
namespace Pre
def DrawAt (C : Calls) (i : Nat) : Prop := ∀ d, Draws d → ∃ (r : Int) (d' : PV), C i [d] = .ok (.int r) [d'] ∧ 0 ≤ r ∧ r < 1000000 ∧ Draws d'
def Draw2At (C : Calls) (i : Nat) : Prop := ∀ d, Draws d → ∀ m : Int, 0 < m → ∃ (r : Int) (d' : PV), C i [d, .int m] = .ok (.int r) [d'] ∧ 0 ≤ r ∧ r < m ∧ Draws d'
theorem draws_lf {d : PV} (h : Draws d) : ∃ l t, d = .lst [.lst l, .int t] := by
  obtain ⟨l, t, rfl, _⟩ := h
  exact ⟨_, _, rfl⟩
def draw2 (m : Nat) : List CS := [.set 2 (.idx (.bv 0) (.int 1)), .sto 0 [(.int 1)] (.bin .add (.var 2) (.int 1)), .ite (.cmp .lt (.var 2) (.b1 .len (.idx (.bv 0) (.int 0)))) [.ret (.bin .mod (.idx (.idx (.bv 0) (.int 0)) (.var 2)) (.var 1))] [], .set 3 (.bin .add (.int 1) (.var 2)), .ite (.cmp .gt (.b1 .len (.idx (.bv 0) (.int 0))) (.int 0)) [.set 3 (.bin .add (.var 3) (.bin .mul (.int 1009) (.idx (.idx (.bv 0) (.int 0)) (.int 0))))] [], .ret (.bin .mod (.bin .fdiv (.call m [(.call m [(.var 3), (.var 2)]), (.int 5)]) (.int 7)) (.var 1))]
theorem draw2_spec {C : Calls} {m : Nat} (hm : MixAt C m) {d : PV} (hd : Draws d) (b : Int) (hb : 0 < b) : ∃ (r : Int) (d' : PV), runF ⟨2, 4, [], [0], 0, draw2 m⟩ C [d, .int b] = .ok (.int r) [d'] ∧ 0 ≤ r ∧ r < b ∧ Draws d' := by
  obtain ⟨l, t, rfl, hl, ht⟩ := hd
  have hD : Draws (.lst [.lst (l.map .int), .int (t + 1)]) := ⟨l, t + 1, rfl, hl, by omega⟩
  have h1009 : small 1009 := by decide
  have h7 : (0 : Int) < 7 ∧ (7 : Int) < 18446744073709551616 := by decide
  by_cases h : t < l.length
  · have hlt : t.toNat < l.length := by omega
    have e1 : pix (l.map PV.int) t = some (.int l[t.toNat]) := by
      unfold pix
      rw [if_pos ht, List.getElem?_map, List.getElem?_eq_getElem hlt]
      rfl
    refine ⟨l[t.toNat] % b, _, ?_, Int.emod_nonneg _ (by omega), Int.emod_lt_of_pos _ hb, hD⟩
    simp [runF, draw2, pix21, pix20, storeV, setAt, h, e1, grd_pos, hb]
  · cases l with
    | nil =>
      refine ⟨mixF (mixF (1 + t) t) 5 / 7 % b, _, ?_, Int.emod_nonneg _ (by omega), Int.emod_lt_of_pos _ hb, hD⟩
      simp at h
      simp [runF, draw2, pix, storeV, setAt, grd_pos, hm _ _, show ¬ t < 0 by omega, hb]
    | cons x r =>
      refine ⟨mixF (mixF (1 + t + 1009 * x) t) 5 / 7 % b, _, ?_, Int.emod_nonneg _ (by omega), Int.emod_lt_of_pos _ hb, hD⟩
      simp at h
      have h2 : ¬ t < (r.length : Int) + 1 := by omega
      simp [runF, draw2, pix, storeV, setAt, grd_pos, hm _ _, h2, h1009, show (0 : Int) < (r.length : Int) + 1 by omega, hb]
/-! ### is_number -/
def is_num : List CS := [.ret (.an (.isi (.var 0) .int) (.an (.nt (.isi (.var 0) .bool)) (.chn .le .le (.var 1) (.var 0) (.var 2))))]
theorem num_i (C : Calls) (x lo hi : Int) : runF ⟨3, 3, [], [], 0, is_num⟩ C [.int x, .int lo, .int hi] = .ok (.bl (decide (lo ≤ x) && decide (x ≤ hi))) [] := by
  by_cases h : lo ≤ x
  · simp [runF, is_num, isTy, h]
  · simp [runF, is_num, isTy, h]
theorem num_b (C : Calls) (x : Bool) (lo hi : PV) : runF ⟨3, 3, [], [], 0, is_num⟩ C [.bl x, lo, hi] = .ok (.bl false) [] := by
  simp [runF, is_num, isTy]
theorem num_n (C : Calls) (lo hi : PV) : runF ⟨3, 3, [], [], 0, is_num⟩ C [.non, lo, hi] = .ok (.bl false) [] := by
  simp [runF, is_num, isTy]
theorem num_s (C : Calls) (x : List Nat) (lo hi : PV) : runF ⟨3, 3, [], [], 0, is_num⟩ C [.str x, lo, hi] = .ok (.bl false) [] := by
  simp [runF, is_num, isTy]
theorem num_l (C : Calls) (x : List PV) (lo hi : PV) : runF ⟨3, 3, [], [], 0, is_num⟩ C [.lst x, lo, hi] = .ok (.bl false) [] := by
  simp [runF, is_num, isTy]
theorem num_t (C : Calls) (x : List PV) (lo hi : PV) : runF ⟨3, 3, [], [], 0, is_num⟩ C [.tup x, lo, hi] = .ok (.bl false) [] := by
  simp [runF, is_num, isTy]
end Pre
end Ev
namespace Ev
/-! ### lists of whole numbers -/
theorem ints_ex {P : Int → Prop} : ∀ {vs : List PV}, (∀ v, v ∈ vs → ∃ i : Int, v = .int i ∧ P i) → ∃ l : List Int, vs = l.map .int ∧ ∀ i, i ∈ l → P i
  | [], _ => ⟨[], rfl, fun _ h => nomatch h⟩
  | v :: vs, h => by
    obtain ⟨i, rfl, hi⟩ := h v (List.mem_cons_self ..)
    obtain ⟨l, rfl, hl⟩ := ints_ex fun v hv => h v (List.mem_cons_of_mem _ hv)
    refine ⟨i :: l, rfl, fun j hj => ?_⟩
    rcases List.mem_cons.mp hj with rfl | hj
    · exact hi
    · exact hl j hj
theorem cut_map {α β : Type} (f : α → β) (l : List α) (lo hi : Option Int) : cut (l.map f) lo hi = (cut l lo hi).map f := by
  unfold cut
  rw [List.length_map, List.map_take, List.map_drop]
theorem cut_mem {α : Type} {l : List α} {lo hi : Option Int} {x : α} (h : x ∈ cut l lo hi) : x ∈ l := List.mem_of_mem_drop (List.mem_of_mem_take h)
theorem cut_to {α : Type} (l : List α) {h : Int} (h0 : 0 ≤ h) : cut l none (some h) = l.take h.toNat := by
  unfold cut clip
  simp [show ¬ h < 0 by omega]
theorem cut_from {α : Type} (l : List α) {h : Int} (h0 : 0 ≤ h) : cut l (some h) none = l.drop h.toNat := by
  unfold cut clip
  simp only [show ¬ h < 0 by omega, if_false]
  by_cases g : h.toNat ≤ l.length
  · rw [Nat.min_eq_left g]
    exact List.take_of_length_le (by simp)
  · rw [Nat.min_eq_right (by omega)]
    rw [List.drop_of_length_le (Nat.le_refl _), List.drop_of_length_le (by omega)]
    simp
theorem cut_of {α : Type} (l : List α) {a b : Int} (h0 : 0 ≤ a) (h1 : a ≤ b) (h2 : b ≤ l.length) : cut l (some a) (some b) = (l.drop a.toNat).take (b.toNat - a.toNat) := by
  unfold cut clip
  simp only [show ¬ a < 0 by omega, show ¬ b < 0 by omega, if_false]
  rw [Nat.min_eq_left (by omega), Nat.min_eq_left (by omega)]
theorem deps_int : ∀ l : List Int, PV.deps (l.map .int) = 0
  | [] => rfl
  | _ :: l => by
    show Nat.max 0 (PV.deps (l.map .int)) = 0
    rw [deps_int l]
    rfl
theorem eqvs_int : ∀ a b : List Int, PV.eqvs (a.map .int) (b.map .int) = decide (a = b)
  | [], [] => rfl
  | [], _ :: _ => rfl
  | _ :: _, [] => rfl
  | x :: a, y :: b => by
    show (x == y && PV.eqvs (a.map .int) (b.map .int)) = _
    rw [eqvs_int a b]
    by_cases h : x = y <;> by_cases g : a = b <;> simp [h, g]
theorem eqD_int (a b : List Int) : eqD (.lst (a.map .int)) (.lst (b.map .int)) = some (decide (a = b)) := by
  unfold eqD
  rw [if_pos]
  · show some (PV.eqvs (a.map .int) (b.map .int)) = _
    rw [eqvs_int]
  · show PV.deps (a.map .int) + 1 ≤ 60 ∧ PV.deps (b.map .int) + 1 ≤ 60
    rw [deps_int, deps_int]
    decide
theorem cop_eqil (a b : List Int) : cop .eq (.lst (a.map .int)) (.lst (b.map .int)) = some (decide (a = b)) := cop_eq.trans (eqD_int a b)
theorem cop_neil (a b : List Int) : cop .ne (.lst (a.map .int)) (.lst (b.map .int)) = some (!decide (a = b)) := by rw [cop_ne, eqD_int]; rfl
theorem pix_map {α β : Type} (f : α → β) (l : List α) (i : Int) : pix (l.map f) i = (pix l i).map f := by
  unfold pix
  rw [List.length_map]
  split
  · rw [List.getElem?_map]
  · split
    · rw [List.getElem?_map]
    · rfl
theorem pl_ints {l : List Int} (h : l.length ≤ SZ) (n : Nat) : Pre.Pl (n + 1) (.lst (l.map .int)) := .lst (by simpa using h) fun x hx => by
  obtain ⟨i, _, rfl⟩ := List.mem_map.mp hx
  exact .int
theorem ints_inj {a b : List Int} (h : a.map PV.int = b.map PV.int) : a = b := by
  have h1 := eqvs_int a b
  rw [← h, eqvs_int] at h1
  simpa using h1
theorem lst_ints_inj {a b : List Int} (h : PV.lst (a.map PV.int) = PV.lst (b.map PV.int)) : a = b := ints_inj (by injection h)
theorem filterMap_none {α β : Type} : ∀ l : List α, l.filterMap (fun _ => (none : Option β)) = []
  | [] => rfl
  | _ :: l => by simp
theorem compL_none {f : PV → Env → R (Option PV)} (I : Env → Prop) (xs : List PV) (env : Env) (h : I env) (st : ∀ x env, x ∈ xs → I env → ∃ e, f x env = .ok none e ∧ I e) : ∃ e, compL f xs env = .ok [] e ∧ I e := by
  obtain ⟨e, h1, h2⟩ := compL_filter I (fun _ => none) xs env h st
  rw [filterMap_none] at h1
  exact ⟨e, h1, h2⟩
theorem cut_len {α : Type} (l : List α) (lo hi : Option Int) : (cut l lo hi).length ≤ l.length := by
  unfold cut
  simp
  omega
end Ev
namespace Ev
/-! ### comprehensions with one name of their own -/
theorem back1 {env1 : Env} {k : Nat} {o : Option PV} (hk : k < env1.length) : backE env1 (env1.set k o) [k] = env1 := by
  show (env1.set k o).set k _ = env1
  rw [List.set_set, List.getElem?_eq_getElem hk]
  exact List.set_getElem_self hk
theorem set_tg1 (e : Env) (k : Nat) (x : PV) : setTG (.nm k) x (wipeE e [k]) = some (e.set k (some x)) := by
  show some ((e.set k none).set k (some x)) = _
  rw [List.set_set]
/-- nothing changes but the name: what each turn gives is told by g -/
theorem cp_pure {C : Calls} {dd k : Nat} {it : CI} {ifs : Option CE} {e : CE} {env env1 : Env} {xs : List PV} (g : PV → Option PV) (hk : k < env1.length) (h : evI C it env = .ok xs env1)
    (st : ∀ x, x ∈ xs → ((evC C ifs (env1.set k (some x))).bind fun t e4 => if t then (evE C e e4).bind fun v e5 => .ok (some v) e5 else .ok none e4) = .ok (g x) (env1.set k (some x))) (hl : xs.length ≤ SZ) :
    evE C (.cp dd [k] (.nm k) it ifs e) env = .ok (.lst (xs.filterMap g)) env1 := by
  obtain ⟨e6, h1, o, rfl⟩ := compL_filter (f := compF C [k] (.nm k) ifs e) (fun env => ∃ o, env = env1.set k o) g xs env1 ⟨env1[k], (List.set_getElem_self hk).symm⟩ fun x env hx ⟨o, he⟩ => by
    subst he
    refine ⟨_, ?_, some x, rfl⟩
    unfold compF
    rw [set_tg1]
    dsimp only
    rw [List.set_set]
    exact st x hx
  rw [cp_ok h h1 (Nat.le_trans (List.length_filterMap_le ..) hl), back1 hk]
theorem cp_map {C : Calls} {dd k : Nat} {it : CI} {e : CE} {env env1 : Env} {xs : List PV} (g : PV → PV) (hk : k < env1.length) (h : evI C it env = .ok xs env1)
    (st : ∀ x, x ∈ xs → evE C e (env1.set k (some x)) = .ok (g x) (env1.set k (some x))) (hl : xs.length ≤ SZ) :
    evE C (.cp dd [k] (.nm k) it none e) env = .ok (.lst (xs.map g)) env1 := by
  rw [cp_pure (fun x => some (g x)) hk h (fun x hx => by rw [ec_none, R.bind_ok', if_pos rfl, st x hx]; rfl) hl]
  congr 2
  induction xs with
  | nil => rfl
  | cons x r ih => simp
/-- one that sifts by a test -/
theorem cp_sift {C : Calls} {dd k : Nat} {it : CI} {c e : CE} {env env1 : Env} {xs : List PV} (p : PV → Bool) (g : PV → PV) (hk : k < env1.length) (h : evI C it env = .ok xs env1)
    (sp : ∀ x, x ∈ xs → tst (evE C c (env1.set k (some x))) = .ok (p x) (env1.set k (some x)))
    (st : ∀ x, x ∈ xs → p x = true → evE C e (env1.set k (some x)) = .ok (g x) (env1.set k (some x))) (hl : xs.length ≤ SZ) :
    evE C (.cp dd [k] (.nm k) it (some c) e) env = .ok (.lst ((xs.filter p).map g)) env1 := by
  rw [cp_pure (fun x => if p x then some (g x) else none) hk h (fun x hx => by
    rw [ec_some, sp x hx, R.bind_ok']
    cases q : p x with
    | true => rw [if_pos rfl, st x hx q]; simp
    | false => simp) hl]
  congr 2
  clear h sp st hl
  induction xs with
  | nil => rfl
  | cons x r ih => cases q : p x <;> simp [q, ih]
namespace Pre
/-- one that draws -/
theorem cp_draw {C : Calls} {dd k : Nat} {it : CI} {e : CE} {env env1 : Env} {xs : List PV} {d0 : PV} (P : PV → Prop) (hk : k < env1.length) (hk1 : k ≠ 1) (hd : env1[1]? = some (some d0)) (D0 : Draws d0) (h : evI C it env = .ok xs env1)
    (st : ∀ x d, x ∈ xs → Draws d → ∃ v d', evE C e ((env1.set k (some x)).set 1 (some d)) = .ok v ((env1.set k (some x)).set 1 (some d')) ∧ P v ∧ Draws d') (hl : xs.length ≤ SZ) :
    ∃ vs d', evE C (.cp dd [k] (.nm k) it none e) env = .ok (.lst vs) (env1.set 1 (some d')) ∧ Draws d' ∧ vs.length = xs.length ∧ ∀ v, v ∈ vs → P v := by
  obtain ⟨h1l, h1e⟩ := List.getElem?_eq_some_iff.mp hd
  have start : env1 = (env1.set k env1[k]).set 1 (some d0) := by
    rw [List.set_getElem_self hk, ← h1e, List.set_getElem_self h1l]
  obtain ⟨vs, e6, h1, ⟨o, d', rfl, D'⟩, hlen, hP⟩ := compL_map (f := compF C [k] (.nm k) none e) (fun env => ∃ o d, env = (env1.set k o).set 1 (some d) ∧ Draws d) (fun _ v => P v) xs env1 ⟨_, _, start, D0⟩ fun x env hx ⟨o, d, he, D⟩ => by
    subst he
    obtain ⟨v, d', q1, q2, q3⟩ := st x d hx D
    refine ⟨v, _, ?_, q2, some x, d', rfl, q3⟩
    unfold compF
    rw [set_tg1]
    dsimp only
    rw [List.set_comm _ _ (Ne.symm hk1), List.set_set, ec_none, R.bind_ok', if_pos rfl, q1]
    rfl
  refine ⟨vs, d', ?_, D', hlen, fun v hv => (hP v hv).elim fun _ h => h.2⟩
  rw [cp_ok h h1 (by omega)]
  congr 1
  show (((env1.set k o).set 1 (some d')).set k _) = _
  rw [List.set_comm _ _ (Ne.symm hk1), List.set_set, List.getElem?_eq_getElem hk]
  dsimp only
  rw [List.set_getElem_self hk]
end Pre
end Ev

/-! Ev15: plain rules: whole numbers in lists, the greatest, the least, places, divisors. -/
namespace Ev
open Ev.Pre
abbrev iL (l : List Int) : PV := .lst (l.map .int)
theorem pix_int {l : List Int} {k : Int} (h0 : 0 ≤ k) (h : k < l.length) : pix (l.map PV.int) k = some (.int (l.getD k.toNat 0)) := by
  rw [pix_map, pix_in h0 h]
  rw [List.getD_eq_getElem?_getD, List.getElem?_eq_getElem (by omega)]
  rfl
theorem getD_mem {l : List Int} {k : Nat} (h : k < l.length) : l.getD k 0 ∈ l := by
  rw [List.getD_eq_getElem?_getD, List.getElem?_eq_getElem h]
  exact List.getElem_mem h
theorem sum_bd {lo hi : Int} : ∀ {l : List Int}, (∀ x, x ∈ l → lo ≤ x ∧ x ≤ hi) → lo * l.length ≤ l.sum ∧ l.sum ≤ hi * l.length
  | [], _ => by simp
  | x :: l, h => by
    have h1 := h x (List.mem_cons_self ..)
    have h2 := sum_bd fun y hy => h y (List.mem_cons_of_mem _ hy)
    rw [List.sum_cons, List.length_cons, Int.natCast_succ, Int.mul_add, Int.mul_add]
    omega
def mxL (l : List Int) : Int := match l with
  | [] => 0
  | x :: r => maxI r x
def mnL (l : List Int) : Int := match l with
  | [] => 0
  | x :: r => minI r x
theorem maxI_mem : ∀ (r : List Int) (x : Int), maxI r x ∈ x :: r
  | [], x => List.mem_cons_self ..
  | y :: r, x => by
    rw [maxI]
    have h := maxI_mem r (if y > x then y else x)
    rcases List.mem_cons.mp h with h | h
    · rw [h]
      split
      · exact List.mem_cons_of_mem _ (List.mem_cons_self ..)
      · exact List.mem_cons_self ..
    · exact List.mem_cons_of_mem _ (List.mem_cons_of_mem _ h)
theorem maxI_ge : ∀ (r : List Int) (x y : Int), y ∈ x :: r → y ≤ maxI r x
  | [], x, y, h => by
    rw [List.mem_singleton] at h
    subst h
    exact Int.le_refl _
  | z :: r, x, y, h => by
    rw [maxI]
    have h1 := maxI_ge r (if z > x then z else x) (if z > x then z else x) (List.mem_cons_self ..)
    have h2 : ∀ w, w ∈ r → w ≤ _ := fun w hw => maxI_ge r (if z > x then z else x) w (List.mem_cons_of_mem _ hw)
    rcases List.mem_cons.mp h with rfl | h
    · split at h1 <;> rename_i q <;> simp only [q, if_true, if_false] <;> omega
    · rcases List.mem_cons.mp h with rfl | h
      · split at h1 <;> rename_i q <;> simp only [q, if_true, if_false] <;> omega
      · exact h2 y h
theorem minI_mem : ∀ (r : List Int) (x : Int), minI r x ∈ x :: r
  | [], x => List.mem_cons_self ..
  | y :: r, x => by
    rw [minI]
    have h := minI_mem r (if y < x then y else x)
    rcases List.mem_cons.mp h with h | h
    · rw [h]
      split
      · exact List.mem_cons_of_mem _ (List.mem_cons_self ..)
      · exact List.mem_cons_self ..
    · exact List.mem_cons_of_mem _ (List.mem_cons_of_mem _ h)
theorem minI_le : ∀ (r : List Int) (x y : Int), y ∈ x :: r → minI r x ≤ y
  | [], x, y, h => by
    rw [List.mem_singleton] at h
    subst h
    exact Int.le_refl _
  | z :: r, x, y, h => by
    rw [minI]
    have h1 := minI_le r (if z < x then z else x) (if z < x then z else x) (List.mem_cons_self ..)
    have h2 : ∀ w, w ∈ r → _ ≤ w := fun w hw => minI_le r (if z < x then z else x) w (List.mem_cons_of_mem _ hw)
    rcases List.mem_cons.mp h with rfl | h
    · split at h1 <;> rename_i q <;> simp only [q, if_true, if_false] <;> omega
    · rcases List.mem_cons.mp h with rfl | h
      · split at h1 <;> rename_i q <;> simp only [q, if_true, if_false] <;> omega
      · exact h2 y h
theorem b1_max_ok {l : List Int} (h : l ≠ []) : b1 .max (.lst (l.map .int)) = some (.int (mxL l)) := by
  cases l with
  | nil => exact absurd rfl h
  | cons x r =>
    show (match getIs ((x :: r).map .int) with
    | some (x :: r) => some (PV.int (maxI r x))
    | _ => none) = _
    rw [getIs_map]
    rfl
theorem b1_min_ok {l : List Int} (h : l ≠ []) : b1 .min (.lst (l.map .int)) = some (.int (mnL l)) := by
  cases l with
  | nil => exact absurd rfl h
  | cons x r =>
    show (match getIs ((x :: r).map .int) with
    | some (x :: r) => some (PV.int (minI r x))
    | _ => none) = _
    rw [getIs_map]
    rfl
theorem mxL_mem {l : List Int} (h : l ≠ []) : mxL l ∈ l := by
  cases l with
  | nil => exact absurd rfl h
  | cons x r => exact maxI_mem r x
theorem mnL_mem {l : List Int} (h : l ≠ []) : mnL l ∈ l := by
  cases l with
  | nil => exact absurd rfl h
  | cons x r => exact minI_mem r x
theorem mxL_ge {l : List Int} {y : Int} (h : y ∈ l) : y ≤ mxL l := by
  cases l with
  | nil => cases h
  | cons x r => exact maxI_ge r x y h
theorem mnL_le {l : List Int} {y : Int} (h : y ∈ l) : mnL l ≤ y := by
  cases l with
  | nil => cases h
  | cons x r => exact minI_le r x y h
theorem findIx_int {m : Int} : ∀ {l : List Int} (j : Nat), m ∈ l → ∃ k, findIx (.int m) (l.map .int) j = some k ∧ j ≤ k ∧ k < j + l.length
  | [], _, h => nomatch h
  | x :: l, j, h => by
    by_cases q : x = m
    · refine ⟨j, ?_, Nat.le_refl _, by simp⟩
      show (if (x == m) = true then some j else _) = _
      simp [q]
    · rcases List.mem_cons.mp h with h | h
      · exact absurd h.symm q
      · obtain ⟨k, h1, h2, h3⟩ := findIx_int (j + 1) h
        refine ⟨k, ?_, by omega, by simp; omega⟩
        show (if (x == m) = true then some j else findIx (.int m) (l.map .int) (j + 1)) = _
        simp [q, h1]
theorem lindex_int {l : List Int} {m : Int} (h : m ∈ l) : ∃ k : Nat, m1 .lindex (.lst (l.map .int)) (.int m) = some (.int k) ∧ k < l.length := by
  obtain ⟨k, h1, _, h2⟩ := findIx_int 0 h
  refine ⟨k, ?_, by omega⟩
  have e : m1 .lindex (.lst (l.map .int)) (.int m) = if (PV.int m).dep ≤ 59 ∧ PV.deps (l.map .int) ≤ 59 then (findIx (.int m) (l.map .int) 0).map fun k => .int (k : Nat) else none := rfl
  rw [e, if_pos ⟨Nat.zero_le _, by rw [deps_int]; decide⟩, h1]
  rfl
@[simp] theorem mty_join {s : List Nat} : m1Ty .join (.str s) = true := rfl
@[simp] theorem mty_lindex {s : List PV} : m1Ty .lindex (.lst s) = true := rfl
@[simp] theorem mty_tindex {s : List PV} : m1Ty .tindex (.tup s) = true := rfl
@[simp] theorem mty_sindex {s : List Nat} : m1Ty .sindex (.str s) = true := rfl
@[simp] theorem mty_split {s : List Nat} : m1Ty .split (.str s) = true := rfl
@[simp] theorem mty_scount {s : List Nat} : m1Ty .scount (.str s) = true := rfl
@[simp] theorem isTy_list {x : List PV} : isTy .list (.lst x) = true := rfl
@[simp] theorem isTy_tuple {x : List PV} : isTy .tuple (.tup x) = true := rfl
@[simp] theorem isTy_str {x : List Nat} : isTy .str (.str x) = true := rfl
@[simp] theorem isTy_int {x : Int} : isTy .int (.int x) = true := rfl
@[simp] theorem isTy_bi {x : Int} : isTy .bool (.int x) = false := rfl
/-! ### the greatest common divisor -/
def gcdC : CE := .cmp .ne (.var 1) (.int 0)
def gcdB : List CS := [.par [0, 1] [(.var 1), (.bin .mod (.var 0) (.var 1))]]
theorem gcd_whl (C : Calls) : ∀ (n a b : Nat), b < n → whlF C gcdC gcdB n [some (.int a), some (.int b)] = .nx [some (.int (Nat.gcd a b)), some (.int 0)]
  | 0, a, b, h => by omega
  | n + 1, a, b, h => by
    by_cases q : b = 0
    · subst q
      rw [whl_stop (e := [some (.int a), some (.int (0 : Nat))]) (by simp [gcdC]), Nat.gcd_zero_right]
      rfl
    · have hb : (0 : Int) < b := by omega
      have hb' : 0 < b := by omega
      have qi : ¬ (b : Int) = 0 := by omega
      have h2 := Nat.mod_lt a hb'
      rw [whl_nx (e := [some (.int a), some (.int b)]) (e2 := [some (.int b), some (.int ((a % b : Nat) : Int))]) (by simp [gcdC, q]) (by simp [gcdB, grd_pos, hb']), gcd_whl C n b (a % b) (by omega), Nat.gcd_comm a b, Nat.gcd_rec b a, Nat.gcd_comm]
/-- a def that tells the divisor -/
def gcdF : List CS := [.whl gcdC gcdB, .ret (.var 0)]
theorem gcd_spec (C : Calls) {a b : Nat} (hb : b < 1099511627776) : runF ⟨2, 2, [], [], 0, gcdF⟩ C [.int a, .int b] = .ok (.int (Nat.gcd a b)) [] := by
  have h : exSs C gcdF [some (.int a), some (.int b)] = .rt (.int (Nat.gcd a b)) [some (.int (Nat.gcd a b)), some (.int 0)] := by
    unfold gcdF
    rw [xs_step (s := .whl gcdC gcdB) (e := [some (.int (Nat.gcd a b)), some (.int 0)]) (by rw [x_whl]; exact gcd_whl C FUEL a b hb)]
    simp
  exact (runF0 (vs := [.int a, .int b]) rfl).trans (congrArg outF0 h)
theorem getV_set_eq {env : Env} {k : Nat} (h : k < env.length) (v : PV) : getV (env.set k (some v)) k = some v := by
  unfold getV
  rw [List.getElem?_set_self h]
theorem chk_cp {C : Calls} {f : Nat} (hN : ∀ x lo hi : Int, C f [.int x, .int lo, .int hi] = .ok (.bl (decide (lo ≤ x) && decide (x ≤ hi))) []) {l : List Int} {lo hi : Int} (h : ∀ x, x ∈ l → lo ≤ x ∧ x ≤ hi) (hl : l.length ≤ SZ) {env : Env} {k j dd : Nat} (hk : k < env.length) (hj : getV env j = some (.lst (l.map .int))) {lo' hi' : CE} (hlo : ∀ env, evA C [lo'] env = .ok [.v (.int lo)] env) (hhi : ∀ env, evA C [hi'] env = .ok [.v (.int hi)] env) (hlo2 : ∀ env r, evA C (lo' :: r) env = (evA C r env).bind fun vs e => .ok (.v (.int lo) :: vs) e) :
    evE C (.cp dd [k] (.nm k) (.of 0 (.var j)) (some (.nt (.call f [.var k, lo', hi']))) (.var k)) env = .ok (.lst []) env := by
  have h1 := cp_sift (C := C) (dd := dd) (k := k) (it := .of 0 (.var j)) (c := .nt (.call f [.var k, lo', hi'])) (e := .var k) (env := env) (env1 := env) (xs := l.map .int) (fun _ => false) (fun x => x) hk (by simp [hj]) (fun x hx => by
    obtain ⟨i, hi', rfl⟩ := List.mem_map.mp hx
    obtain ⟨b1, b2⟩ := h i hi'
    rw [e_nt, e_call, ea_var, e_var, getV_set_eq hk, R.of_some, R.bind_ok', hlo2, hhi]
    simp [hN, b1, b2]) (fun x hx hp => by cases hp) (by simpa using hl)
  rw [h1]
  simp
theorem rangeI_eq : ∀ (n : Nat) (a : Int), rangeI a 1 n = (List.range n).map fun k => .int (a + (k : Nat))
  | 0, a => rfl
  | n + 1, a => by
    rw [rangeI, rangeI_eq n, List.range_succ_eq_map, List.map_cons, List.map_map]
    congr 1
    · simp
    · apply List.map_congr_left
      intro k _
      show PV.int _ = PV.int _
      congr 1
      simp
      omega
theorem rangeI_eq0 (n : Nat) : rangeI 0 1 n = (List.range n).map fun k => .int (k : Nat) := by
  rw [rangeI_eq]
  apply List.map_congr_left
  intro k _
  simp
/-- a loop over a range, turn by turn -/
theorem forL_rng {f : PV → Env → O} {a : Int} (mk : Nat → Env → Prop) : ∀ (n j : Nat) (env : Env), (∀ i env, j ≤ i → i < j + n → mk i env → ∃ e, f (.int (a + i)) env = .nx e ∧ mk (i + 1) e) → mk j env → ∃ e, forL f (rangeI (a + j) 1 n) env = .nx e ∧ mk (j + n) e
  | 0, j, env, _, h => ⟨env, rfl, h⟩
  | n + 1, j, env, st, h => by
    obtain ⟨e, h1, h2⟩ := st j env (Nat.le_refl _) (by omega) h
    obtain ⟨e2, h3, h4⟩ := forL_rng mk n (j + 1) e (fun i env h1 h2 => st i env (by omega) (by omega)) h2
    refine ⟨e2, ?_, by rw [show j + (n + 1) = j + 1 + n by omega]; exact h4⟩
    rw [rangeI, forL, h1]
    dsimp only
    rw [← h3]
    congr 2
    omega
theorem forL_rng0 {f : PV → Env → O} (mk : Nat → Env → Prop) (n : Nat) (env : Env) (st : ∀ (i : Nat) env, i < n → mk i env → ∃ e, f (.int (i : Int)) env = .nx e ∧ mk (i + 1) e) (h : mk 0 env) : ∃ e, forL f (rangeI 0 1 n) env = .nx e ∧ mk n e := by
  obtain ⟨e, h1, h2⟩ := forL_rng (f := f) (a := 0) mk n 0 env (fun i env _ h2 h3 => by
    obtain ⟨e, h4, h5⟩ := st i env (by omega) h3
    exact ⟨e, by rw [Int.zero_add]; exact h4, h5⟩) h
  exact ⟨e, h1, by rw [Nat.zero_add] at h2; exact h2⟩
theorem forL_rng1 {f : PV → Env → O} (a : Int) (mk : Nat → Env → Prop) (n : Nat) (env : Env) (st : ∀ (i : Nat) env, i < n → mk i env → ∃ e, f (.int (a + i)) env = .nx e ∧ mk (i + 1) e) (h : mk 0 env) : ∃ e, forL f (rangeI a 1 n) env = .nx e ∧ mk n e := by
  obtain ⟨e, h1, h2⟩ := forL_rng (f := f) (a := a) mk n 0 env (fun i env _ h2 h3 => st i env (by omega) h3) h
  rw [Nat.zero_add] at h2
  exact ⟨e, by rw [← h1]; congr 1; congr 1; simp, h2⟩
/-- a loop over a list, what is done so far told -/
theorem forL_lst {α : Type} {f : PV → Env → O} (g : α → PV) (mk : List α → Env → Prop) : ∀ (rest done : List α) (env : Env), (∀ d a r env, done ++ rest = d ++ a :: r → mk d env → ∃ e, f (g a) env = .nx e ∧ mk (d ++ [a]) e) → mk done env → ∃ e, forL f (rest.map g) env = .nx e ∧ mk (done ++ rest) e
  | [], done, env, _, h => ⟨env, rfl, by rw [List.append_nil]; exact h⟩
  | a :: rest, done, env, st, h => by
    obtain ⟨e, h1, h2⟩ := st done a rest env rfl h
    have hh : done ++ [a] ++ rest = done ++ a :: rest := by simp
    obtain ⟨e2, h3, h4⟩ := forL_lst g mk rest (done ++ [a]) e (fun d b r env q => st d b r env (by rw [← hh]; exact q)) h2
    exact ⟨e2, by rw [List.map_cons, forL, h1]; exact h3, by rw [← hh]; exact h4⟩
theorem forL_lst0 {α : Type} {f : PV → Env → O} (g : α → PV) (mk : List α → Env → Prop) (l : List α) (env : Env) (st : ∀ d a r env, l = d ++ a :: r → mk d env → ∃ e, f (g a) env = .nx e ∧ mk (d ++ [a]) e) (h : mk [] env) : ∃ e, forL f (l.map g) env = .nx e ∧ mk l e :=
  forL_lst g mk l [] env st h
/-- the end of a def with one in-out parameter, the first -/
theorem runF_io {np ns rm : Nat} {ms : List Nat} {body : List CS} {C : Calls} {vs : List PV} {v d : PV} {r : Env} (hl : vs.length = np) (h : exSs C body (vs.map some ++ List.replicate (ns - np) none) = .rt v (some d :: r)) : runF ⟨np, ns, ms, [0], rm, body⟩ C vs = .ok v [d] := by
  unfold runF
  rw [if_pos hl]
  dsimp only
  rw [h]
  rfl
theorem runF_rt {np ns rm : Nat} {ms : List Nat} {body : List CS} {C : Calls} {vs : List PV} {v : PV} {r : Env} (hl : vs.length = np) (h : exSs C body (vs.map some ++ List.replicate (ns - np) none) = .rt v r) : runF ⟨np, ns, ms, [], rm, body⟩ C vs = .ok v [] := by
  rw [runF0 hl, h]
  rfl
theorem runF_nx {np ns rm : Nat} {ms : List Nat} {body : List CS} {C : Calls} {vs : List PV} {r : Env} (hl : vs.length = np) (h : exSs C body (vs.map some ++ List.replicate (ns - np) none) = .nx r) : runF ⟨np, ns, ms, [], rm, body⟩ C vs = .ok .non [] := by
  rw [runF0 hl, h]
  rfl
/-! ### the last item -/
theorem pix_last {α : Type} (r : List α) (x : α) : pix (r ++ [x]) (-1) = some x := by
  unfold pix
  rw [if_neg (by decide), List.length_append, List.length_singleton, if_pos (by omega)]
  rw [show ((-1 : Int) + ((r.length + 1 : Nat) : Int)).toNat = r.length by omega]
  simp
theorem pix_last' {α : Type} (r : List α) (x : α) : pix (r ++ [x]) (((r ++ [x]).length : Int) - 1) = some x := by
  unfold pix
  rw [List.length_append, List.length_singleton, if_pos (by omega)]
  rw [show (((r.length + 1 : Nat) : Int) - 1).toNat = r.length by omega]
  simp
theorem setAt_last (r : List PV) (x v : PV) : setAt (r ++ [x]) (-1) v = some (r ++ [v]) := by
  unfold setAt
  rw [if_neg (by decide), List.length_append, List.length_singleton, if_pos (by omega)]
  rw [show ((-1 : Int) + ((r.length + 1 : Nat) : Int)).toNat = r.length by omega]
  simp
theorem setAt_last' (r : List PV) (x v : PV) : setAt (r ++ [x]) (((r ++ [x]).length : Int) - 1) v = some (r ++ [v]) := by
  unfold setAt
  rw [List.length_append, List.length_singleton, if_pos (by omega), if_pos (by omega)]
  rw [show (((r.length + 1 : Nat) : Int) - 1).toNat = r.length by omega]
  simp
theorem snoc_cases {α : Type} (l : List α) : l = [] ∨ ∃ r x, l = r ++ [x] := by
  rcases List.eq_nil_or_concat l with h | ⟨r, x, h⟩
  · exact .inl h
  · exact .inr ⟨r, x, by rw [h, List.concat_eq_append]⟩
theorem cp_ints {C : Calls} {dd k : Nat} {e0 e : CE} {env env1 : Env} {l : List Int} (g : Int → Int) (hk : k < env1.length) (h : evE C e0 env = .ok (.lst (l.map .int)) env1)
    (st : ∀ i, i ∈ l → evE C e (env1.set k (some (.int i))) = .ok (.int (g i)) (env1.set k (some (.int i)))) (hl : l.length ≤ SZ) :
    evE C (.cp dd [k] (.nm k) (.of 0 e0) none e) env = .ok (.lst ((l.map g).map .int)) env1 := by
  rw [Ev.cp_map (xs := l.map .int) (fun x => match x with | .int i => .int (g i) | _ => .non) hk (by rw [ei_of, h]; rfl) (fun x hx => by
    obtain ⟨i, hi, rfl⟩ := List.mem_map.mp hx
    exact st i hi) (by simpa using hl)]
  congr 2
  rw [List.map_map, List.map_map]
  rfl
theorem minI_shift (c : Int) : ∀ (r : List Int) (x : Int), minI (r.map (c + ·)) (c + x) = c + minI r x
  | [], x => rfl
  | y :: r, x => by
    show minI (r.map (c + ·)) (if c + y < c + x then c + y else c + x) = c + minI r (if y < x then y else x)
    rw [← minI_shift c r]
    congr 1
    split <;> split <;> omega
theorem maxI_shift (c : Int) : ∀ (r : List Int) (x : Int), maxI (r.map (c + ·)) (c + x) = c + maxI r x
  | [], x => rfl
  | y :: r, x => by
    show maxI (r.map (c + ·)) (if c + y > c + x then c + y else c + x) = c + maxI r (if y > x then y else x)
    rw [← maxI_shift c r]
    congr 1
    split <;> split <;> omega
theorem mnL_shift (c : Int) {l : List Int} (h : l ≠ []) : mnL (l.map (c + ·)) = c + mnL l := by
  cases l with
  | nil => exact absurd rfl h
  | cons x r => exact minI_shift c r x
/-- a comprehension over pairs, its two names its own -/
theorem cp_tp2 {C : Calls} {dd a b : Nat} {it : CI} {e : CE} {env env1 : Env} {xs : List PV} (g : PV → PV) (ha : a < env1.length) (hb : b < env1.length) (hab : a ≠ b) (h : evI C it env = .ok xs env1)
    (st : ∀ x, x ∈ xs → ∃ u v, x = .tup [u, v] ∧ evE C e ((env1.set a (some u)).set b (some v)) = .ok (g x) ((env1.set a (some u)).set b (some v))) (hl : xs.length ≤ SZ) :
    evE C (.cp dd [a, b] (.tp [a, b]) it none e) env = .ok (.lst (xs.map g)) env1 := by
  have hf : xs.filterMap (fun x => some (g x)) = xs.map g := by
    clear h st hl
    induction xs with
    | nil => rfl
    | cons x r ih => simp
  have back : ∀ oa ob : Option PV, backE env1 ((env1.set a oa).set b ob) [a, b] = env1 := fun oa ob => by
    show ((((env1.set a oa).set b ob).set b (match env1[b]? with | some o => o | none => none)).set a (match env1[a]? with | some o => o | none => none)) = env1
    rw [List.set_set, List.set_comm _ _ (Ne.symm hab), List.set_set, List.getElem?_eq_getElem ha, List.getElem?_eq_getElem hb]
    dsimp only
    rw [List.set_getElem_self ha, List.set_getElem_self hb]
  have start : env1 = (env1.set a env1[a]).set b env1[b] := by
    rw [List.set_getElem_self ha, List.set_getElem_self hb]
  obtain ⟨e6, h1, oa, ob, rfl⟩ := compL_filter (f := compF C [a, b] (.tp [a, b]) none e) (fun env => ∃ oa ob, env = (env1.set a oa).set b ob) (fun x => some (g x)) xs env1 ⟨_, _, start⟩ fun x env hx ⟨oa, ob, he⟩ => by
    subst he
    obtain ⟨u, v, rfl, hh⟩ := st x hx
    refine ⟨_, ?_, some u, some v, rfl⟩
    have e1 : setTG (.tp [a, b]) (.tup [u, v]) (wipeE ((env1.set a oa).set b ob) [a, b]) = some ((env1.set a (some u)).set b (some v)) := by
      show some ((((((env1.set a oa).set b ob).set b none).set a none).set a (some u)).set b (some v)) = _
      rw [List.set_set, List.set_set, List.set_comm _ _ (Ne.symm hab), List.set_set, List.set_set]
    unfold compF
    rw [e1]
    dsimp only
    rw [ec_none, R.bind_ok', if_pos rfl, hh]
    rfl
  rw [cp_ok h h1 (by rw [hf, List.length_map]; exact hl), hf, back]
/-- xs = xs + e -/
theorem set_addl {C : Calls} {env : Env} {i : Nat} {e : CE} {x y : List PV} (h : evE C e env = .ok (.lst y) env) (hx : getV env i = some (.lst x)) (hs : x.length + y.length ≤ SZ) : exS C (.set i (.bin .add (.var i) e)) env = .nx (env.set i (some (.lst (x ++ y)))) := by
  rw [x_set, e_bin, e_var, hx, R.of_some, R.bind_ok', h, R.bind_ok', bop_addl, grd_pos hs, R.of_some, R.then_ok]
theorem any_int (i : Int) : ∀ l : List Int, ((l.map PV.int).any fun y => PV.eqv y (.int i)) = decide (i ∈ l)
  | [] => by simp
  | x :: l => by
    have h : PV.eqv (.int x) (.int i) = (x == i) := rfl
    rw [List.map_cons, List.any_cons, any_int i l, h]
    by_cases q : x = i
    · simp [q]
    · have q' : ¬ i = x := fun e => q e.symm
      simp [q, q']
theorem cop_inni (i : Int) (l : List Int) : cop .inn (.int i) (.lst (l.map .int)) = some (decide (i ∈ l)) := by
  show (if (PV.int i).dep ≤ 59 ∧ PV.deps (l.map .int) ≤ 59 then some ((l.map PV.int).any fun y => PV.eqv y (.int i)) else none) = _
  rw [if_pos ⟨Nat.zero_le _, by rw [deps_int]; decide⟩, any_int]
theorem setAt_int {l : List Int} {k : Nat} (h : k < l.length) (v : Int) : setAt (l.map PV.int) (k : Int) (.int v) = some ((l.set k v).map PV.int) := by
  unfold setAt
  rw [if_pos (by omega), List.length_map, if_pos (by omega), List.map_set]
  rfl
/-- a loop over a range that may leave with an answer -/
theorem forL_rngR {f : PV → Env → O} {a : Int} (mk : Nat → Env → Prop) (Rt : Nat → PV → Prop) : ∀ (n j : Nat) (env : Env), (∀ i env, j ≤ i → i < j + n → mk i env → (∃ e, f (.int (a + i)) env = .nx e ∧ mk (i + 1) e) ∨ ∃ v e, f (.int (a + i)) env = .rt v e ∧ Rt i v) → mk j env →
    (∃ e, forL f (rangeI (a + j) 1 n) env = .nx e ∧ mk (j + n) e) ∨ ∃ v e i, forL f (rangeI (a + j) 1 n) env = .rt v e ∧ Rt i v ∧ i < j + n
  | 0, j, env, _, h => .inl ⟨env, rfl, h⟩
  | n + 1, j, env, st, h => by
    rcases st j env (Nat.le_refl _) (by omega) h with ⟨e, h1, h2⟩ | ⟨v, e, h1, h2⟩
    · have hs : rangeI (a + ((j + 1 : Nat) : Int)) 1 n = rangeI (a + j + 1) 1 n := by
        congr 1
        omega
      rcases forL_rngR (a := a) mk Rt n (j + 1) e (fun i env h1 h2 => st i env (by omega) (by omega)) h2 with ⟨e2, h3, h4⟩ | ⟨v, e2, i, h3, h4, h5⟩
      · refine .inl ⟨e2, ?_, by rw [show j + (n + 1) = j + 1 + n by omega]; exact h4⟩
        rw [rangeI, forL, h1]
        dsimp only
        rw [← h3, hs]
      · refine .inr ⟨v, e2, i, ?_, h4, by omega⟩
        rw [rangeI, forL, h1]
        dsimp only
        rw [← h3, hs]
    · exact .inr ⟨v, e, j, by rw [rangeI, forL, h1], h2, by omega⟩
/-! ### sorting -/
theorem insI_count (p : Int → Bool) (x : Int) : ∀ l : List Int, ((insI x l).filter p).length = ((x :: l).filter p).length
  | [] => rfl
  | y :: r => by
    rw [insI]
    split
    · rfl
    · rw [List.filter_cons]
      have ih := insI_count p x r
      rw [List.filter_cons] at ih
      rw [List.filter_cons, List.filter_cons]
      cases h1 : p y <;> cases h2 : p x <;> simp [h1, h2] at ih ⊢ <;> omega
theorem sortI_count (p : Int → Bool) : ∀ l : List Int, ((sortI l).filter p).length = (l.filter p).length
  | [] => rfl
  | x :: r => by
    rw [sortI, insI_count, List.filter_cons, List.filter_cons]
    have := sortI_count p r
    cases p x <;> simp [this]
theorem insI_mem {x y : Int} : ∀ {l : List Int}, y ∈ insI x l → y = x ∨ y ∈ l
  | [], h => by
    rw [insI, List.mem_singleton] at h
    exact .inl h
  | z :: r, h => by
    rw [insI] at h
    split at h
    · rcases List.mem_cons.mp h with h | h
      · exact .inl h
      · exact .inr h
    · rcases List.mem_cons.mp h with h | h
      · exact .inr (by rw [h]; exact List.mem_cons_self ..)
      · rcases insI_mem h with h | h
        · exact .inl h
        · exact .inr (List.mem_cons_of_mem _ h)
theorem sortI_mem {y : Int} : ∀ {l : List Int}, y ∈ sortI l → y ∈ l
  | [], h => h
  | x :: r, h => by
    rcases insI_mem h with h | h
    · rw [h]; exact List.mem_cons_self ..
    · exact List.mem_cons_of_mem _ (sortI_mem h)
theorem insI_len (x : Int) : ∀ l : List Int, (insI x l).length = l.length + 1
  | [] => rfl
  | y :: r => by
    rw [insI]
    split
    · rfl
    · rw [List.length_cons, insI_len x r]; rfl
theorem sortI_len : ∀ l : List Int, (sortI l).length = l.length
  | [] => rfl
  | x :: r => by rw [sortI, insI_len, sortI_len r]; rfl
theorem b1_sorted {l : List Int} : b1 .sorted (.lst (l.map .int)) = some (.lst ((sortI l).map .int)) := by
  show (match getIs (l.map .int) with
    | some l => some (PV.lst ((sortI l).map .int))
    | none => none) = _
  rw [getIs_map]
namespace Pre
/-- one that draws, the draws at any slot -/
theorem cp_drawS {C : Calls} {dd k sl : Nat} {it : CI} {e : CE} {env env1 : Env} {xs : List PV} {d0 : PV} (P : PV → Prop) (hk : k < env1.length) (hk1 : k ≠ sl) (hd : env1[sl]? = some (some d0)) (D0 : Draws d0) (h : evI C it env = .ok xs env1)
    (st : ∀ x d, x ∈ xs → Draws d → ∃ v d', evE C e ((env1.set k (some x)).set sl (some d)) = .ok v ((env1.set k (some x)).set sl (some d')) ∧ P v ∧ Draws d') (hl : xs.length ≤ SZ) :
    ∃ vs d', evE C (.cp dd [k] (.nm k) it none e) env = .ok (.lst vs) (env1.set sl (some d')) ∧ Draws d' ∧ vs.length = xs.length ∧ ∀ v, v ∈ vs → P v := by
  obtain ⟨h1l, h1e⟩ := List.getElem?_eq_some_iff.mp hd
  have start : env1 = (env1.set k env1[k]).set sl (some d0) := by
    rw [List.set_getElem_self hk, ← h1e, List.set_getElem_self h1l]
  obtain ⟨vs, e6, h1, ⟨o, d', rfl, D'⟩, hlen, hP⟩ := compL_map (f := compF C [k] (.nm k) none e) (fun env => ∃ o d, env = (env1.set k o).set sl (some d) ∧ Draws d) (fun _ v => P v) xs env1 ⟨_, _, start, D0⟩ fun x env hx ⟨o, d, he, D⟩ => by
    subst he
    obtain ⟨v, d', q1, q2, q3⟩ := st x d hx D
    refine ⟨v, _, ?_, q2, some x, d', rfl, q3⟩
    unfold compF
    rw [set_tg1]
    dsimp only
    rw [List.set_comm _ _ (Ne.symm hk1), List.set_set, ec_none, R.bind_ok', if_pos rfl, q1]
    rfl
  refine ⟨vs, d', ?_, D', hlen, fun v hv => (hP v hv).elim fun _ h => h.2⟩
  rw [cp_ok h h1 (by omega)]
  congr 1
  show (((env1.set k o).set sl (some d')).set k _) = _
  rw [List.set_comm _ _ (Ne.symm hk1), List.set_set, List.getElem?_eq_getElem hk]
  dsimp only
  rw [List.set_getElem_self hk]
end Pre
end Ev

/-! Ev16: sorted(.., reverse=True), min of things that are alike, range with any step. -/
namespace Ev
open PySem PySem.Spec PyProof.Rows L2
open PySem.W (alike alikeAll dataLt keyToks keyToksAll dataLt_list dataLt_tuple dataLt_bool dataLt_int dataLt_str dataLt_cons alike_unique minD min_list_data)
mutual
theorem alk_toD : ∀ a b : PV, alike (toD a) (toD b) = PV.alk a b
  | .lst xs, b => by cases b <;> simp [toD, alike, PV.alk, alks_toDs]
  | .tup xs, b => by cases b <;> simp [toD, alike, PV.alk, alks_toDs]
  | .non, b => by cases b <;> simp [toD, alike, PV.alk]
  | .bl _, b => by cases b <;> simp [toD, alike, PV.alk]
  | .int _, b => by cases b <;> simp [toD, alike, PV.alk]
  | .str _, b => by cases b <;> simp [toD, alike, PV.alk]
  | .dic _ _ _, b => by cases b <;> simp [toD, alike, PV.alk]
  | .fn _, b => by cases b <;> simp [toD, alike, PV.alk]
  | .obj _ _, b => by cases b <;> simp [toD, alike, PV.alk]
theorem alks_toDs : ∀ xs ys : List PV, alikeAll (toDs xs) (toDs ys) = PV.alks xs ys
  | [], ys => by cases ys <;> simp [toDs, alikeAll, PV.alks]
  | x :: xs, [] => by simp [toDs, alikeAll, PV.alks]
  | x :: xs, y :: ys => by simp [toDs, alikeAll, PV.alks, alk_toD x y, alks_toDs xs ys]
end
theorem S_inj' {a b : List Nat} (h : S a = S b) : a = b := by
  have := congrArg (fun z : Str => z.cps.toList) h
  simpa [S] using this
mutual
theorem ltv_toD : ∀ a b : PV, a.dep ≤ 100 → b.dep ≤ 100 → PV.alk a b = true → dataLt (toD a) (toD b) = PV.ltv a b
  | .lst xs, b, ha, hb, h => by
    cases b with
    | lst ys =>
      simp only [PV.dep] at ha hb
      simp only [toD, dataLt_list, PV.ltv]
      exact ltvs_toDs xs ys (by omega) (by omega) (by simpa [PV.alk] using h)
    | _ => simp [PV.alk] at h
  | .tup xs, b, ha, hb, h => by
    cases b with
    | tup ys =>
      simp only [PV.dep] at ha hb
      simp only [toD, dataLt_tuple, PV.ltv]
      exact ltvs_toDs xs ys (by omega) (by omega) (by simpa [PV.alk] using h)
    | _ => simp [PV.alk] at h
  | .non, b, _, _, h => by
    cases b with
    | non => first | rfl | (simp [toD, dataLt, keyToks, PyProof.Rows.lexLt, PV.ltv])
    | _ => simp [PV.alk] at h
  | .bl x, b, _, _, h => by
    cases b with
    | bl y => simp only [toD, dataLt_bool, PV.ltv]; cases x <;> cases y <;> rfl
    | _ => simp [PV.alk] at h
  | .int x, b, _, _, h => by
    cases b with
    | int y => simp only [toD, dataLt_int, PV.ltv]
    | _ => simp [PV.alk] at h
  | .str x, b, _, _, h => by
    cases b with
    | str y => simp only [toD, dataLt_str, PV.ltv]; exact lt_ltS x y
    | _ => simp [PV.alk] at h
  | .dic _ _ _, b, _, _, h | .fn _, b, _, _, h | .obj _ _, b, _, _, h => by simp [PV.alk] at h
theorem ltvs_toDs : ∀ xs ys : List PV, PV.deps xs ≤ 99 → PV.deps ys ≤ 99 → PV.alks xs ys = true → PyProof.Rows.lexLt itemOrd (keyToksAll (toDs xs)) (keyToksAll (toDs ys)) = PV.ltvs xs ys
  | [], [], _, _, _ => by simp [toDs, keyToksAll, PyProof.Rows.lexLt, PV.ltvs, itemLt]
  | [], _ :: _, _, _, _ => by simp [toDs, keyToksAll, PyProof.Rows.lexLt, PV.ltvs, itemLt]
  | _ :: _, [], _, _, _ => by simp [toDs, keyToksAll, PyProof.Rows.lexLt, PV.ltvs, itemLt]
  | x :: xs, y :: ys, ha, hb, h => by
    have h1 : Nat.max x.dep (PV.deps xs) ≤ 99 := ha
    have h2 : Nat.max y.dep (PV.deps ys) ≤ 99 := hb
    have a1 : x.dep ≤ 99 := Nat.le_trans (Nat.le_max_left _ _) h1
    have a2 : PV.deps xs ≤ 99 := Nat.le_trans (Nat.le_max_right _ _) h1
    have b1 : y.dep ≤ 99 := Nat.le_trans (Nat.le_max_left _ _) h2
    have b2 : PV.deps ys ≤ 99 := Nat.le_trans (Nat.le_max_right _ _) h2
    have hh : PV.alk x y = true ∧ PV.alks xs ys = true := by simpa [PV.alks] using h
    simp only [toDs]
    rw [dataLt_cons (by rw [alk_toD]; exact hh.1), eqv_toD x y (by omega) (by omega), ltvs_toDs xs ys a2 b2 hh.2, ltv_toD x y (by omega) (by omega) hh.1, PV.ltvs]
end
mutual
theorem toD_inj : ∀ a b : PV, PV.alk a b = true → toD a = toD b → a = b
  | .lst xs, b, h, e => by
    cases b with
    | lst ys =>
      simp only [toD, PyData.list.injEq] at e
      rw [toDs_inj xs ys (by simpa [PV.alk] using h) e]
    | _ => simp [PV.alk] at h
  | .tup xs, b, h, e => by
    cases b with
    | tup ys =>
      simp only [toD, PyData.tuple.injEq] at e
      rw [toDs_inj xs ys (by simpa [PV.alk] using h) e]
    | _ => simp [PV.alk] at h
  | .non, b, h, e => by
    cases b with
    | non => rfl
    | _ => simp [PV.alk] at h
  | .bl x, b, h, e => by
    cases b with
    | bl y => simp only [toD, PyData.bool.injEq] at e; rw [e]
    | _ => simp [PV.alk] at h
  | .int x, b, h, e => by
    cases b with
    | int y => simp only [toD, PyData.int.injEq] at e; rw [e]
    | _ => simp [PV.alk] at h
  | .str x, b, h, e => by
    cases b with
    | str y => simp only [toD, PyData.str.injEq] at e; rw [S_inj' e]
    | _ => simp [PV.alk] at h
  | .dic _ _ _, b, h, _ | .fn _, b, h, _ | .obj _ _, b, h, _ => by simp [PV.alk] at h
theorem toDs_inj : ∀ xs ys : List PV, PV.alks xs ys = true → toDs xs = toDs ys → xs = ys
  | [], [], _, _ => rfl
  | [], _ :: _, _, e => by simp [toDs] at e
  | _ :: _, [], _, e => by simp [toDs] at e
  | x :: xs, y :: ys, h, e => by
    have hh : PV.alk x y = true ∧ PV.alks xs ys = true := by simpa [PV.alks] using h
    simp only [toDs, List.cons.injEq] at e
    rw [toD_inj x y hh.1 e.1, toDs_inj xs ys hh.2 e.2]
end
theorem deps_mem {x : PV} : ∀ {xs : List PV} {n : Nat}, PV.deps xs ≤ n → x ∈ xs → x.dep ≤ n
  | [], _, _, h => nomatch h
  | y :: ys, n, hd, h => by
    have h1 : Nat.max y.dep (PV.deps ys) ≤ n := hd
    have a1 : y.dep ≤ n := Nat.le_trans (Nat.le_max_left _ _) h1
    have a2 : PV.deps ys ≤ n := Nat.le_trans (Nat.le_max_right _ _) h1
    rcases List.mem_cons.mp h with rfl | h
    · exact a1
    · exact deps_mem a2 h
theorem alkAll_at {xs : List PV} (h : alkAll xs = true) : (∀ x, x ∈ xs → x.isNon = false) ∧ ∀ x y, x ∈ xs → y ∈ xs → PV.alk x y = true := by
  simp only [alkAll, List.all_eq_true, Bool.and_eq_true, Bool.not_eq_true'] at h
  exact ⟨fun x hx => (h x hx).1, fun x y hx hy => (h x hx).2 y hy⟩
theorem minV_toD {A : List PV} (hA : ∀ x y, x ∈ A → y ∈ A → PV.alk x y = true) (hd : PV.deps A ≤ 59) : ∀ (xs : List PV) (x : PV), x ∈ A → (∀ y, y ∈ xs → y ∈ A) → minD (toD x) (toDs xs) = toD (minV x xs) ∧ minV x xs ∈ A
  | [], x, hx, _ => ⟨rfl, hx⟩
  | y :: ys, x, hx, hy => by
    have e1 := ltv_toD y x (by have := deps_mem hd (hy y (by simp)); omega) (by have := deps_mem hd hx; omega) (hA _ _ (hy y (by simp)) hx)
    have hm : (if PV.ltv y x then y else x) ∈ A := by
      split
      · exact hy y (by simp)
      · exact hx
    have ih := minV_toD hA hd ys (if PV.ltv y x then y else x) hm fun z hz => hy z (by simp [hz])
    simp only [minD, minV, toDs, List.foldl_cons] at ih ⊢
    rw [e1]
    refine ⟨?_, ih.2⟩
    rw [← ih.1]
    split <;> rfl
theorem toD_non {x : PV} (h : x.isNon = false) : toD x ≠ .none := by
  cases x <;> simp [toD, PV.isNon] at h ⊢
theorem toDs_mem {d : PyData} {xs : List PV} (h : d ∈ toDs xs) : ∃ x, x ∈ xs ∧ d = toD x := by
  rw [toDs_map] at h
  obtain ⟨x, hx, rfl⟩ := List.mem_map.mp h
  exact ⟨x, hx, rfl⟩
theorem RepVs.mem_at {D : Dm} {G : Hp} {xs : List PV} {vs : List V} {us : List Value} {i : Nat} {u : Value} (r : RepVs D G xs vs) (rv : Vals vs us) (h : us[i]? = some u) : ∃ x v, x ∈ xs ∧ RepV D G x v ∧ RelV v u := by
  induction rv generalizing xs i with
  | nil => exact absurd h (by simp)
  | cons r1 r2 ih =>
    cases xs with
    | nil =>
      have e : _ = [] := r
      cases e
    | cons x xs =>
      obtain ⟨v, rr, e, h1, h2⟩ := r
      cases e
      cases i with
      | zero =>
        have e := Option.some.inj (show some _ = some u from h)
        exact ⟨x, _, by simp, h1, e ▸ r1⟩
      | succ i =>
        obtain ⟨x', v', a, b, c⟩ := ih h2 (i := i) (by simpa using h)
        exact ⟨x', v', by simp [a], b, c⟩
theorem cr_xmin {D : Dm} {X : Cx} (e : D.K = X.K) (hc : X.calm = true) (hu : X.A.units + 65 < cLine) : CallR X (.builtin "min") (fun vs H Q => ∃ G x pa r, vs = [x] ∧ (∀ b o, G b = some o → H b = some o) ∧ RdE D G H pa x ∧ xminV pa = some r ∧ ∀ v H' G', Made D G H true r v H' G' → Q v H') := by
  intro pins s σ H vs us Q I rv h
  obtain ⟨G, x, pa, r, rfl, sub, ra, hb, q⟩ := h
  unfold xminV at hb
  split at hb
  · rename_i y ys
    unfold grd at hb
    split at hb
    · rename_i hh
      obtain ⟨h1, h2, h3⟩ := hh
      have hr := (Option.some.inj hb).symm
      subst hr
      obtain ⟨a, vs, rfl, ha, r1⟩ := ra.lst sub
      obtain ⟨its, rl, hl, _⟩ := I.list (e ▸ ha.sq)
      rw [Vals.ref1 rv]
      obtain ⟨k1, k2⟩ := alkAll_at h1
      have r1' := r1.mono sub
      have dpa := dp_toDs r1' (Nat.le_trans h2 (by omega))
      obtain ⟨as, hra⟩ := Dp.readsAll I _ _ _ (e ▸ dpa) rl
      obtain ⟨m1, m2⟩ := minV_toD k2 h2 ys y (by simp) (fun z hz => by simp [hz])
      refine min_list_data (I.ok.hd hc) hl.isList (x := toD y) (xs := toDs ys) (as := as) (by simpa [toDs] using hra) ?_ ?_ fun i v h' tk bs hi hrd hk => ?_
      · refine ⟨fun d hd d' hd' => ?_, fun d hd => ?_⟩
        · obtain ⟨z, hz, rfl⟩ := toDs_mem (xs := y :: ys) (by simpa [toDs] using hd)
          obtain ⟨z', hz', rfl⟩ := toDs_mem (xs := y :: ys) (by simpa [toDs] using hd')
          rw [alk_toD]
          exact k2 _ _ hz hz'
        · obtain ⟨z, hz, rfl⟩ := toDs_mem (xs := y :: ys) (by simpa [toDs] using hd)
          exact toD_non (k1 z hz)
      · have := depth_toDs (y :: ys) (Nat.le_trans h2 (by omega))
        simp only [toDs] at this
        rw [this]
        omega
      · obtain ⟨z, w, hz, rz, rw_⟩ := RepVs.mem_at r1 rl (i := i) (u := v) (by simpa using hi)
        have hzd : z.dep ≤ 100 := by have := deps_mem h2 hz; omega
        obtain ⟨as', hrz⟩ := Dp.reads I (toD z) w v (e ▸ dp_toD (rz.mono sub) hzd) rw_
        have hrz' := PyProof.Rows.Reads.keeps hk hrz
        rw [m1] at hrd
        have := alike_unique _ _ _ _ _ (by rw [alk_toD]; exact k2 _ _ hz m2) hrz' hrd
        have ez := toD_inj _ _ (k2 _ _ hz m2) this
        have kk := k2 _ _ m2 m2
        have hL : (minV y ys).isL = false := by
          clear q ez this hrd hb m1 m2
          revert h3 kk
          cases minV y ys <;> simp [PV.isLst, PV.isL, PV.alk]
        exact ⟨w, H, I.kept hk, rw_, q _ _ _ (.old (ez ▸ rz) fun _ => hL)⟩
    · cases hb
  · cases hb
section
variable {D : Dm} {X : Cx} {C : Calls} {W : WX} {ms : List Nat} {M M1 M2 M3 : List Nat} {σ : L2.St} {dl dl1 dl2 dl3 : Dl} {a b c : CE} {ea eb ec tg : Expr} {pos p1 p2 p3 : Pos}
theorem s_xmin (e : D.K = X.K) (hc : X.calm = true) (hu : X.A.units + 65 < cLine) {nm : Str} (hn : nm = "min") {p : Pos} (hg : Gl X nm) (hm : X.mg nm = none) (ha : SE D X C W ms M dl a ea) (h1 : opOk dl [] = true) (hst : starEach [ea] X.env = (false, eval ea X.env) :: starEach [] X.env) : SE D X C W ms M (.own 1) (.xmin a) (.Call (.Name nm p) [ea] [] pos) := by
  subst hn
  have key : PE X (.Call (.Name "min" p) [ea] [] pos) (tCB (fun vs H Q => ∃ G x pa r, vs = [x] ∧ (∀ b o, G b = some o → H b = some o) ∧ RdE D G H pa x ∧ xminV pa = some r ∧ ∀ v H' G', Made D G H true r v H' G' → Q v H') (tCons (Rd D W ms M (fun σ => Dlv D ms σ dl) (evE C a)) tNil)) :=
    pe_callB (cr_xmin e hc hu) hg hm (b1_boot .min) (pa_cons ha pa_nil hst) (by decide +kernel) (by decide +kernel) hst rfl
  refine PE.imp key fun σ H Q ⟨env, G, Fp, R, h⟩ => ?_
  refine PoA.next (s1 := ⟨env, H, G, Fp⟩) (del0 := fun σ => Dlv D ms σ dl) h R Ext.refl (fun _ h => h) fun x vx s1 R1 E1 E1' d1 h1' => ?_
  obtain ⟨r, hr, k⟩ := PoA.of h1'
  exact ⟨s1.G, vx, x, r, rfl, R1.sub, d1.here h1 R1, hr, fun v H' G' m => fin_made (f := true) R1 E1' m k⟩
theorem sortI_rev {a l : List Int} (hp : a.Perm l) (hs : a.Pairwise (· ≥ ·)) : a = (sortI l).reverse := by
  have h1 : a.reverse.Pairwise (· ≤ ·) := List.pairwise_reverse.mpr hs
  have h2 := sortI_eq ((List.reverse_perm a).trans hp) h1
  rw [← h2, List.reverse_reverse]
theorem s_sortR (e : D.K = X.K) {nm kn : Str} (hn : nm = "sorted") (hkn : kn = "reverse") {p kp kpos : Pos} {j : Nat} (hg : Gl X nm) (hm : X.mg nm = none) (ha : SE D X C W ms M dl a ea) (h1 : opOk dl [] = true)
    (he : backTo pos (starEach [ea] X.env) = (false, eval ea X.env) :: backTo pos (starEach [] X.env)) (hpl : (backTo pos (starEach [ea] X.env)).any (·.1) = false) (hst : starEach [ea] X.env = (false, eval ea X.env) :: starEach [] X.env)
    (hall : (backToKw pos (keywordEach [⟨some kn, .Constant (.bool true) j kp, kpos⟩] X.env)).all (·.1.isSome) = true) (hnone : (backToKw pos (keywordEach [⟨some kn, .Constant (.bool true) j kp, kpos⟩] X.env)).any (·.1.isNone) = false)
    (hks : (backToKw pos (keywordEach [⟨some kn, .Constant (.bool true) j kp, kpos⟩] X.env)).filterMap (·.1) = [kn]) :
    SE D X C W ms M (.own 1) (.sortR a) (.Call (.Name nm p) [ea] [⟨some kn, .Constant (.bool true) j kp, kpos⟩] pos) := by
  subst hn
  subst hkn
  have key := pe_callBK (X := X) (x := "sorted") (p := p) (pos := pos) (e := ea) (es := []) (ks := [Str.ofString "reverse"]) (kws := [⟨some (Str.ofString "reverse"), .Constant (.bool true) j kp, kpos⟩]) (r := rSortedKw X.K true [.bl true]) cr_sortedRev hg hm (b1_boot .sorted) (pa_cons ha pa_nil hst) (pk_cons (nm := some (Str.ofString "reverse")) (kpos := kpos) (pe_bl (X := X) (b := true) (j := j) (pos := kp)) pk_nil) (by decide +kernel) (by decide +kernel) he hpl hall hnone hks
  refine PE.imp key fun σ H Q ⟨env, G, Fp, R, h⟩ => ?_
  refine PoA.next (s1 := ⟨env, H, G, Fp⟩) (del0 := fun σ => Dlv D ms σ dl) h R Ext.refl (fun _ h => h) fun x vx s1 R1 E1 E1' d1 h1' => ?_
  obtain ⟨r, hr, k⟩ := PoA.of h1'
  unfold sortRv at hr
  split at hr
  · obtain ⟨l, hl, rfl⟩ := Option.map_eq_some_iff.mp hr
    obtain ⟨a, vs, rfl, ha', r1⟩ := (d1.here h1 R1).lst R1.sub
    have e1 := r1.asIs hl
    subst e1
    refine ⟨a, l, rfl, rfl, e ▸ ha'.sq, fun ns' p hp hs hn => ?_⟩
    rw [sortI_rev hp (by simpa [OrdB] using hs)]
    exact fin_made (f := true) R1 E1' (.lst hn (RepVs.ofInts _)) k
  · cases hr
theorem si_r4 {nm : Str} (hn : nm = "range") (hg : Gl X nm) (hm : X.mg nm = none) (ha : SE D X C W ms M1 dl1 a ea) (hb : SE D X C W ms M2 dl2 b eb) (hc : SE D X C W ms M3 dl3 c ec) (h1 : opOk dl1 (M2 ++ M3) = true) (h2 : opOk dl2 M3 = true) (h3 : opOk dl3 [] = true)
    (hst : starEach [ea, eb, ec] X.env = (false, eval ea X.env) :: starEach [eb, ec] X.env) (hst2 : ((backTo pos (starEach [eb, ec] X.env)).any fun x => x.fst) = false) (hst3 : starEach [eb, ec] X.env = (false, eval eb X.env) :: starEach [ec] X.env) (hst4 : starEach [ec] X.env = (false, eval ec X.env) :: starEach [] X.env) :
    SI D X C W ms (M1 ++ (M2 ++ M3)) (.r4 a b c) tg (.Call (.Name nm p1) [ea, eb, ec] [] pos) := by
  subst hn
  refine PI.imp (pi_range3 hg hm (pa_cons ha (pa_cons hb (pa_cons hc pa_nil hst4) hst3) hst) hst hst2) fun σ H Q ⟨env, G, Fp, R, h⟩ => ?_
  refine PoA.next (s1 := ⟨env, H, G, Fp⟩) (ev := evE C a) (del0 := fun σ => Dlv D ms σ dl1) h R Ext.refl memL fun x vx s1 R1 E1 E1' d1 h1' => ?_
  refine PoA.next (ev := evE C b) (del0 := fun σ => Dlv D ms σ dl2) (M2 := M2) h1' R1 E1' (fun i q => memR i (memL i q)) fun y vy s2 R2 E2 E2' d2 h2' => ?_
  refine PoA.next (ev := evE C c) (del0 := fun σ => Dlv D ms σ dl3) (M2 := M3) h2' R2 E2' (fun i q => memR i (memR i q)) fun z vz s3 R3 E3 E3' d3 h3' => ?_
  cases x <;> first | exact h3'.elim | skip
  cases y <;> first | exact h3'.elim | skip
  cases z <;> first | exact h3'.elim | skip
  rename_i i j k
  have := (d1.held h1 (Ext.trans2 E2 E3 memL memR) R3).int
  subst this
  have := (d2.held h2 E3 R3).int
  subst this
  have := (d3.here h3 R3).int
  subst this
  dsimp only at h3'
  by_cases hr : (inR i ∧ inR j) ∧ k ≠ 0 ∧ -1000000 < k ∧ k < 1000000
  · rw [if_pos hr] at h3'
    exact ⟨i, j, k, _, rfl, rgC_of i j k hr.1 hr.2.1 hr.2.2.1 hr.2.2.2, h3' _ _ _ _ R3 E3' (itOk_rngC i k _)⟩
  · rw [if_neg hr] at h3'
    exact h3'.elim
end
end Ev

/-! Ev17: plain rules for what Ev16 brings. -/
namespace Ev
@[simp] theorem e_sortR {C : Calls} {a : CE} {env : Env} : evE C (.sortR a) env = (evE C a env).bind fun x e1 => R.of (sortRv x) e1 := rfl
@[simp] theorem e_xmin {C : Calls} {a : CE} {env : Env} : evE C (.xmin a) env = (evE C a env).bind fun x e1 => R.of (xminV x) e1 := rfl
theorem ei_r4_ok {C : Calls} {a b c : CE} {env e1 e2 e3 : Env} {n m k : Int} (h : evE C a env = .ok (.int n) e1) (h2 : evE C b e1 = .ok (.int m) e2) (h3 : evE C c e2 = .ok (.int k) e3) (hn : inR n) (hm : inR m) (hc : k ≠ 0 ∧ -1000000 < k ∧ k < 1000000) : evI C (.r4 a b c) env = .ok (rangeI n k (rcount n m k)) e3 := by
  show ((evE C a env).bind fun v e1 => (evE C b e1).bind fun u e2 => (evE C c e2).bind fun w e3 => match v, u, w with
    | .int i, .int j, .int k => if (inR i ∧ inR j) ∧ k ≠ 0 ∧ -1000000 < k ∧ k < 1000000 then R.ok (rangeI i k (rcount i j k)) e3 else .st
    | _, _, _ => .st) = _
  rw [h]
  show ((evE C b e1).bind fun u e2 => _) = _
  rw [h2]
  show ((evE C c e2).bind fun w e3 => _) = _
  rw [h3]
  show (if (inR n ∧ inR m) ∧ k ≠ 0 ∧ -1000000 < k ∧ k < 1000000 then R.ok (rangeI n k (rcount n m k)) e3 else .st) = _
  rw [if_pos ⟨⟨hn, hm⟩, hc⟩]
theorem sortR_ok {l : List Int} : sortRv (.lst (l.map .int)) = some (.lst ((sortI l).reverse.map .int)) := by
  show (getIs (l.map .int)).map (fun l => PV.lst ((sortI l).reverse.map .int)) = _
  rw [getIs_map]
  rfl
theorem insI_id {x : Int} {l : List Int} (h : ∀ y, y ∈ l → x ≤ y) : insI x l = x :: l := by
  cases l with
  | nil => rfl
  | cons y r => rw [insI, if_pos (h y (by simp))]
theorem sortI_id : ∀ {l : List Int}, l.Pairwise (· ≤ ·) → sortI l = l
  | [], _ => rfl
  | x :: r, h => by
    obtain ⟨h1, h2⟩ := List.pairwise_cons.mp h
    rw [sortI, sortI_id h2, insI_id h1]
theorem insI_srt (x : Int) : ∀ l : List Int, l.Pairwise (· ≤ ·) → (insI x l).Pairwise (· ≤ ·)
  | [], _ => by simp [insI]
  | y :: r, h => by
    obtain ⟨h1, h2⟩ := List.pairwise_cons.mp h
    rw [insI]
    by_cases c : x ≤ y
    · rw [if_pos c]
      refine List.pairwise_cons.mpr ⟨fun z hz => ?_, h⟩
      rcases List.mem_cons.mp hz with rfl | hz
      · exact c
      · have := h1 z hz; omega
    · rw [if_neg c]
      refine List.pairwise_cons.mpr ⟨fun z hz => ?_, insI_srt x r h2⟩
      rcases insI_mem hz with rfl | hz
      · omega
      · exact h1 z hz
theorem sortI_srt : ∀ l : List Int, (sortI l).Pairwise (· ≤ ·)
  | [] => .nil
  | x :: r => insI_srt x _ (sortI_srt r)
theorem getSs_map : ∀ l : List (List Nat), getSs (l.map .str) = some l
  | [] => rfl
  | s :: r => by rw [List.map_cons, getSs, getSs_map r]; rfl
end Ev

/-! Ev18: lists of lists that are changed. -/
namespace Ev
open PySem PySem.Spec PyProof.Rows L2
section
variable {D : Dm} {G H G' H' : Hp}
/-- an owned item, and another in its place -/
theorem OwnRs.item : ∀ {n : Nat} {xs : List PV} {vs : List V} {F : List Addr} {k : Nat} {x : PV}, OwnRs D G H n xs vs F → xs[k]? = some x →
    ∃ v Fk, vs[k]? = some v ∧ OwnR D G H n x v Fk ∧ (∀ b, b ∈ Fk → b ∈ F) ∧ (F.Nodup → Fk.Nodup) ∧
      ∀ (H' : Hp) x' v' Fk', F.Nodup → (∀ b, b ∈ F → b ∉ Fk → H' b = H b) → OwnR D G H' n x' v' Fk' → Fk'.Nodup → (∀ b, b ∈ Fk' → b ∈ Fk ∨ b ∉ F) →
        ∃ F', OwnRs D G H' n (xs.set k x') (vs.set k v') F' ∧ F'.Nodup ∧ ∀ b, b ∈ F' → b ∈ Fk' ∨ (b ∈ F ∧ b ∉ Fk)
  | n, [], vs, F, k, x, h, q => by simp at q
  | n, y :: xs, _, F, 0, x, h, q => by
    obtain ⟨v, r, F1, F2, rfl, rfl, h1, h2⟩ := h
    have q : y = x := by simpa using q
    subst q
    refine ⟨v, F1, rfl, h1, fun b hb => List.mem_append_left _ hb, fun nd => (List.nodup_append.mp nd).1, fun H' x' v' Fk' nd hk o nd' hd => ?_⟩
    obtain ⟨n1, n2, n3⟩ := List.nodup_append.mp nd
    have n4 : ∀ b, b ∈ F2 → b ∉ F1 := fun b h2 h1 => n3 b h1 b h2 rfl
    refine ⟨Fk' ++ F2, ⟨v', r, Fk', F2, rfl, rfl, o, h2.mono (fun _ _ e => e) fun b hb u e => ?_⟩, List.nodup_append.mpr ⟨nd', n2, fun a ha b hb e => ?_⟩, fun b hb => ?_⟩
    · rw [hk b (List.mem_append_right _ hb) (n4 b hb)]; exact e
    · subst e
      rcases hd a ha with z | z
      · exact n4 a hb z
      · exact z (List.mem_append_right _ hb)
    · rcases List.mem_append.mp hb with hb | hb
      · exact .inl hb
      · exact .inr ⟨List.mem_append_right _ hb, n4 b hb⟩
  | n, y :: xs, _, F, k + 1, x, h, q => by
    obtain ⟨v, r, F1, F2, rfl, rfl, h1, h2⟩ := h
    obtain ⟨w, Fk, e1, e2, e3, e4, rep⟩ := OwnRs.item h2 (k := k) (x := x) (by simpa using q)
    refine ⟨w, Fk, by simpa using e1, e2, fun b hb => List.mem_append_right _ (e3 b hb), fun nd => e4 (List.nodup_append.mp nd).2.1, fun H' x' v' Fk' nd hk o nd' hd => ?_⟩
    obtain ⟨n1, n2, n3⟩ := List.nodup_append.mp nd
    have n4 : ∀ b, b ∈ F1 → b ∉ F2 := fun b h1 h2 => n3 b h1 b h2 rfl
    obtain ⟨F', o', nd2, m⟩ := rep H' x' v' Fk' n2 (fun b hb hn => hk b (List.mem_append_right _ hb) hn) o nd' fun b hb => (hd b hb).imp id fun z z2 => z (List.mem_append_right _ z2)
    refine ⟨F1 ++ F', ⟨v, _, F1, F', rfl, rfl, h1.mono (fun _ _ e => e) fun b hb u e => ?_, o'⟩, List.nodup_append.mpr ⟨n1, nd2, fun a ha b hb e => ?_⟩, fun b hb => ?_⟩
    · rw [hk b (List.mem_append_left _ hb) fun z => n4 b hb (e3 b z)]; exact e
    · subst e
      rcases m a hb with z | ⟨z, _⟩
      · rcases hd a z with z | z
        · exact n4 a ha (e3 a z)
        · exact z (List.mem_append_left _ ha)
      · exact n4 a ha z
    · rcases List.mem_append.mp hb with hb | hb
      · exact .inr ⟨List.mem_append_left _ hb, fun z => n4 b hb (e3 b z)⟩
      · exact (m b hb).imp id fun z => ⟨List.mem_append_right _ z.1, z.2⟩
theorem OwnRs.app : ∀ {n : Nat} {xs ys : List PV} {vs us : List V} {F1 F2 : List Addr}, OwnRs D G H n xs vs F1 → OwnRs D G H n ys us F2 → OwnRs D G H n (xs ++ ys) (vs ++ us) (F1 ++ F2)
  | n, [], ys, _, us, _, F2, h, q => by
    obtain ⟨rfl, rfl⟩ := h
    exact q
  | n, x :: xs, ys, _, us, _, F2, h, q => by
    obtain ⟨v, r, A, B, rfl, rfl, h1, h2⟩ := h
    exact ⟨v, _, A, B ++ F2, rfl, by rw [List.append_assoc], h1, h2.app q⟩
theorem OwnRs.one {n : Nat} {x : PV} {v : V} {F : List Addr} (h : OwnR D G H n x v F) : OwnRs D G H n [x] [v] F := ⟨v, [], F, [], rfl, by simp, h, rfl, rfl⟩
theorem OwnRs.length : ∀ {n : Nat} {xs : List PV} {vs : List V} {F : List Addr}, OwnRs D G H n xs vs F → xs.length = vs.length
  | n, [], _, _, h => by
    obtain ⟨rfl, _⟩ := h
    rfl
  | n, x :: xs, _, _, h => by
    obtain ⟨v, r, A, B, rfl, rfl, h1, h2⟩ := h
    rw [List.length_cons, List.length_cons, h2.length]
theorem OwnR.list {n : Nat} {xs : List PV} {v : V} {F : List Addr} (h : OwnR D G H (n + 1) (.lst xs) v F) : ∃ a vs Fs, v = .ref a ∧ H a = some (.lst vs) ∧ F = a :: Fs ∧ OwnRs D G H n xs vs Fs := h
end
theorem pix_j {xs : List PV} {i : Int} {x : PV} (h : pix xs i = some x) : ∃ j, xs[j]? = some x ∧ (∀ z, setAt xs i z = some (xs.set j z)) ∧ ∀ vs : List V, vs.length = xs.length → atI vs i = vs[j]? ∧ ixN vs.length i = some j := by
  unfold pix at h
  by_cases h0 : 0 ≤ i
  · rw [if_pos h0] at h
    have hl : i.toNat < xs.length := by
      by_cases q : i.toNat < xs.length
      · exact q
      · rw [List.getElem?_eq_none (by omega)] at h; cases h
    refine ⟨i.toNat, h, fun z => ?_, fun vs e => ?_⟩
    · unfold setAt
      rw [if_pos h0, if_pos (by omega)]
    · have e2 : ixN vs.length i = some i.toNat := by
        unfold ixN
        rw [if_pos h0, if_pos (by omega)]
      refine ⟨?_, e2⟩
      unfold atI
      rw [e2]
      rfl
  · rw [if_neg h0] at h
    by_cases h1 : -(xs.length : Int) ≤ i
    · rw [if_pos h1] at h
      refine ⟨_, h, fun z => ?_, fun vs e => ?_⟩
      · unfold setAt
        rw [if_neg h0, if_pos h1]
      · have e2 : ixN vs.length i = some (i + xs.length).toNat := by
          unfold ixN
          rw [if_neg h0, if_pos (by omega), e]
        refine ⟨?_, e2⟩
        unfold atI
        rw [e2]
        rfl
    · rw [if_neg h1] at h; cases h
theorem setAt_j {xs zs : List PV} {i : Int} {z : PV} (h : setAt xs i z = some zs) : ∃ j x, xs[j]? = some x ∧ zs = xs.set j z ∧ ∀ n, n = xs.length → ixN n i = some j := by
  unfold setAt at h
  by_cases h0 : 0 ≤ i
  · rw [if_pos h0] at h
    by_cases h1 : i < xs.length
    · rw [if_pos h1] at h
      refine ⟨i.toNat, _, List.getElem?_eq_getElem (by omega), (Option.some.inj h).symm, fun n e => ?_⟩
      unfold ixN
      rw [if_pos h0, if_pos (by omega)]
    · rw [if_neg h1] at h; cases h
  · rw [if_neg h0] at h
    by_cases h1 : -(xs.length : Int) ≤ i
    · rw [if_pos h1] at h
      refine ⟨_, _, List.getElem?_eq_getElem (show (i + xs.length).toNat < xs.length by omega), (Option.some.inj h).symm, fun n e => ?_⟩
      unfold ixN
      rw [if_neg h0, if_pos (by omega), e]
    · rw [if_neg h1] at h; cases h
section
variable {D : Dm} {X : Cx} {C : Calls} {W : WX} {B L : List Nat} {rm : Nat} {P : List Nat} {ms ms1 ms2 ms3 : List Nat} {M M1 M2 M3 : List Nat} {σ σ0 σ1 : L2.St} {s0 s1 s2 : Sta} {x y : PV} {v u : V} {dl dl1 dl2 dl3 : Dl} {a b c : CE} {ea eb ec tg : Expr} {pos p1 p2 p3 p4 : Pos} {st : Stmt} {Dn : Ends}
/-! ### reading -/
theorem s_bvN {i n : Nat} {x : Str} (hN : X.N[i]? = some x) (hv : Vis X.env.scope x) (h0 : gm ms i = n) (h1 : (x == ("__debug__" : Str)) = false) (h2 : (x == ("__classdict__" : Str)) = false) : SE D X C W ms [] (.br i n) (.bv i) (.Name x pos) := PE.imp (pe_var hN hv h1 h2) fun σ H Q ⟨env, G, Fp, R, p⟩ => by
  obtain ⟨y, e, k⟩ := PoA.of (o := getV env i) p
  obtain ⟨v, e1, o⟩ := R.at_ i y e
  rw [h0] at o
  exact ⟨v, e1, k v H G Fp R Ext.refl (.inr ⟨_, fun _ h => h, o⟩)⟩
/-- what a slot lends, later -/
theorem Dlv.br {i n : Nat} (d : Dlv D ms σ (.br i n) x v s0 s1) (ok : M2.contains i = false) (E : ExtS M2 s1 s2) : Dlv D ms σ (.br i n) x v s0 s2 := by
  have hi : ¬ i ∈ M2 := by simpa using ok
  rcases d with d | ⟨F, hF, o⟩
  · exact .inl (RepV.mono E.mono d)
  · exact .inr ⟨F, fun b hb => by rw [(E.same i hi).1]; exact hF b hb, o.mono E.mono fun b hb u e => E.own i b u (hF b hb) hi e⟩
theorem RdE.of_own {n : Nat} {G H : Hp} {F : List Addr} (h : OwnR D G H (n + 1) x v F) (q : x.isL = true) : (∃ a vs xs Fs, x = .lst xs ∧ v = .ref a ∧ H a = some (.lst vs) ∧ F = a :: Fs ∧ OwnRs D G H n xs vs Fs) ∨ RdE D G H x v := by
  cases x <;> simp [PV.isL] at q
  · obtain ⟨a, vs, Fs, e1, e2, e3, e4⟩ := h
    exact .inl ⟨a, vs, _, Fs, rfl, e1, e2, e3, e4⟩
  · obtain ⟨a, us, e1, e2, e3, e4⟩ := h
    exact .inr (.inr (.inr ⟨a, _, _, us, _, rfl, e1, e2, e4⟩))
theorem s_idxB (e : D.K = X.K) (hu : X.A.units + 65 < cLine) {i n : Nat} (ha : SE D X C W ms M1 (.br i (n + 1)) a ea) (hb : SE D X C W ms M2 dl2 b eb) (h1 : M2.contains i = false) (h2 : opOk dl2 [] = true) (hp : PlainIx eb) : SE D X C W ms (M1 ++ M2) (.br i n) (.idx a b) (.Subscript ea eb pos) := by
  refine PE.imp (pe_ix ((ix_idx e hu).or ix_list) ha hb hp) fun σ H Q ⟨env, G, Fp, R, h⟩ => ?_
  refine PoA.next (s1 := ⟨env, H, G, Fp⟩) (del0 := fun σ => Dlv D ms σ (.br i (n + 1))) h R Ext.refl memL fun x vx s1 R1 E1 E1' d1 h1' => ?_
  refine PoA.next (del0 := fun σ => Dlv D ms σ dl2) h1' R1 E1' memR fun y vy s2 R2 E2 E2' d2 h2' => ?_
  obtain ⟨r, hr, k⟩ := PoA.of h2'
  have d1' := d1.br h1 E2
  have ry := d2.here h2 R2
  have flat : RepV D s2.G x vx → ((fun x y H Q => (∃ G pa pb r, (∀ b o, G b = some o → H b = some o) ∧ RdE D G H pa x ∧ RdE D G H pb y ∧ idx pa pb = some r ∧ ∀ v, RepV D G r v → Q v H) ∨ rIxL X.K x y H Q)   : L2.R2) vx vy s2.H Q := fun d => .inl ⟨s2.G, x, y, r, R2.sub, .inl d, ry, hr, fun v rv => k _ _ _ _ R2 E2' (.inl rv)⟩
  rcases d1' with d | ⟨F, hF, o⟩
  · exact flat d
  · cases q : x.isL with
    | false => exact flat ((OwnR.flat q).mp o).2
    | true =>
      rcases RdE.of_own o q with ⟨p, vs, xs, Fs, rfl, rfl, hH, rfl, os⟩ | rd
      rotate_left
      · exact .inl ⟨s2.G, x, y, r, R2.sub, rd, ry, hr, fun v rv => k _ _ _ _ R2 E2' (.inl rv)⟩
      cases y <;> simp [idx] at hr
      rename_i z
      obtain ⟨j, hj, _, hvs⟩ := pix_j hr
      obtain ⟨w, Fk, e1, e2, e3, _, _⟩ := os.item hj
      have := ry.int
      subst this
      exact .inr ⟨p, vs, z, w, rfl, rfl, .inl (.inl hH), ((hvs vs os.length.symm).1).trans e1, k _ _ _ _ R2 E2' (.inr ⟨Fk, fun b hb => hF b (List.mem_cons_of_mem _ (e3 b hb)), e2⟩)⟩
theorem SE.br0 {i : Nat} (h : SE D X C W ms M (.br i 0) a ea) : SE D X C W ms M .sh a ea := SE.to h fun σ x v s0 s1 R E d => ⟨s1.G, R, E, by
  rcases d with d | ⟨F, _, o⟩
  · exact d
  · exact (OwnR.zero.mp o).2⟩
/-- what a slot lends, as it stands -/
theorem Dlv.now {i n : Nat} (d : Dlv D ms σ (.br i n) x v s0 s1) (R1 : RelS D ms σ s1) : RepV D s1.H x v := by
  rcases d with d | ⟨F, _, o⟩
  · exact d.mono R1.sub
  · exact o.rep R1.sub
theorem s_lenB (e : D.K = X.K) (hc : X.calm = true) {i n : Nat} {nm : Str} (hn : nm = "len") {p : Pos} (hg : Gl X nm) (hm : X.mg nm = none) (ha : SE D X C W ms M (.br i n) a ea) (hst : starEach [ea] X.env = (false, eval ea X.env) :: starEach [] X.env) : SE D X C W ms M .sh (.b1 .len a) (.Call (.Name nm p) [ea] [] pos) := by
  subst hn
  have key : PE X (.Call (.Name "len" p) [ea] [] pos) (tCB (fun vs H Q => ∃ G x pa r, vs = [x] ∧ (∀ b o, G b = some o → H b = some o) ∧ RdE D G H pa x ∧ b1 .len pa = some r ∧ ∀ v H' G', Made D G H true r v H' G' → Q v H') (tCons (Rd D W ms M (fun σ => Dlv D ms σ (.br i n)) (evE C a)) tNil)) :=
    pe_callB (cr_b1 (X := X) e hc .len) hg hm (b1_boot .len) (pa_cons ha pa_nil hst) (by decide +kernel) (by decide +kernel) hst rfl
  refine PE.imp key fun σ H Q ⟨env, G, Fp, R, h⟩ => ?_
  refine PoA.next (s1 := ⟨env, H, G, Fp⟩) (del0 := fun σ => Dlv D ms σ (.br i n)) h R Ext.refl (fun _ h => h) fun x vx s1 R1 E1 E1' d1 h1' => ?_
  obtain ⟨r, hr, k⟩ := PoA.of h1'
  have hi : ∃ z, r = .int z := by
    cases x <;> first | (simp [b1] at hr; exact ⟨_, hr.symm⟩) | (simp [b1] at hr; done) | (rename_i bb _ _; cases bb <;> simp [b1] at hr; exact ⟨_, hr.symm⟩)
  obtain ⟨z, rfl⟩ := hi
  refine ⟨s1.H, vx, x, _, rfl, fun _ _ e => e, .inl (d1.now R1), hr, fun v H' G' m => ?_⟩
  cases m with
  | old rv _ => exact k v _ _ _ R1 E1' rv
theorem s_cmpB (e : D.K = X.K) (hu : X.A.units + 65 < cLine) {i n : Nat} {op : CO} {eo : CmpOp} (ho : cOf op = eo) (ha : SE D X C W ms M1 (.br i n) a ea) (hb : SE D X C W ms M2 dl2 b eb) (h1 : M2.contains i = false) (h2 : opOk dl2 [] = true) (hm : behindInMarks eo eb = false) : SE D X C W ms (M1 ++ M2) .sh (.cmp op a b) (.Compare ea [eo] [eb] pos) := by
  subst ho
  refine PE.imp (pe_cmpR (op_cop e hu op) ha hb hm) fun σ H Q ⟨env, G, Fp, R, h⟩ => ?_
  refine PoA.next (s1 := ⟨env, H, G, Fp⟩) (del0 := fun σ => Dlv D ms σ (.br i n)) h R Ext.refl memL fun x vx s1 R1 E1 E1' d1 h1' => ?_
  refine PoA.next (del0 := fun σ => Dlv D ms σ dl2) h1' R1 E1' memR fun y vy s2 R2 E2 E2' d2 h2' => ?_
  obtain ⟨r, hr, k⟩ := PoA.of h2'
  simp only [Option.map_eq_some_iff] at hr
  obtain ⟨t, ht, rfl⟩ := hr
  exact ⟨s2.H, x, y, t, fun _ _ e => e, .inl ((d1.br h1 E2).now R2), .inl ((d2.here h2 R2).rep R2.sub), ht, k _ _ _ _ R2 E2' rfl⟩
theorem st_cmpB (e : D.K = X.K) (hu : X.A.units + 65 < cLine) {i n : Nat} {op : CO} {eo : CmpOp} (ho : cOf op = eo) (ha : SE D X C W ms M1 (.br i n) a ea) (hb : SE D X C W ms M2 dl2 b eb) (h1 : M2.contains i = false) (h2 : opOk dl2 [] = true) (hm : behindInMarks eo eb = false) : ST D X C W ms (M1 ++ M2) (.cmp op a b) (.Compare ea [eo] [eb] pos) := by
  subst ho
  refine PT.imp (pt_cmpR (op_cop e hu op) ha hb hm) fun σ H Q ⟨env, G, Fp, R, h⟩ => ?_
  have h : PoA D W ms σ (M1 ++ M2) (fun a b _ _ => a = b) _ (((evE C a env).bind fun x e1 => (evE C b e1).bind fun y e2 => Ev.R.of ((cop op x y).map .bl) e2).bind fun x e => Ev.R.of (truth x) e) Q := h
  rw [Ev.R.bind_assoc] at h
  refine PoA.next (s1 := ⟨env, H, G, Fp⟩) (ev := evE C a) (del0 := fun σ => Dlv D ms σ (.br i n)) h R Ext.refl memL fun x vx s1 R1 E1 E1' d1 h1' => ?_
  rw [Ev.R.bind_assoc] at h1'
  refine PoA.next (ev := evE C b) (del0 := fun σ => Dlv D ms σ dl2) h1' R1 E1' memR fun y vy s2 R2 E2 E2' d2 h2' => ?_
  cases q : cop op x y with
  | none => rw [q] at h2'; exact h2'.elim
  | some t =>
    rw [q] at h2'
    exact ⟨s2.H, x, y, t, fun _ _ e => e, .inl ((d1.br h1 E2).now R2), .inl ((d2.here h2 R2).rep R2.sub), q, t, rfl, h2' _ _ _ _ R2 E2' rfl⟩
/-! ### a slot's own lists are changed -/
theorem Rel.pokeN {s : Sta} {i : Nat} {x x' : PV} {v : V} {F F' : List Addr} {H' : Hp} (R : RelS D ms σ s) (hx : getV s.env i = some x) (hv : σ[i]? = some (some v)) (hH : ∀ b, b ∉ s.Fp i → H' b = s.H b)
    (o : OwnR D s.G H' (gm ms i) x' v F') (nd : F'.Nodup) (hF' : ∀ b, b ∈ F' → b ∈ s.Fp i ∨ b ∈ F) (hF : ∀ b, b ∈ F → s.G b = none ∧ ∀ j, b ∉ s.Fp j) :
    RelS D ms σ ⟨s.env.set i (some x'), H', s.G, fun j => if j = i then F' else s.Fp j⟩ ∧ ∀ s0, ExtA s0 s → New s0.H s0.Fp F → ExtA s0 ⟨s.env.set i (some x'), H', s.G, fun j => if j = i then F' else s.Fp j⟩ := by
  have hl := getV_lt hx
  refine ⟨⟨fun j y q => ?_, fun j q => ?_, fun b u e => ?_, fun j b hb => ?_, fun j => ?_, fun j j' b hb hb' => ?_, by simpa using R.len⟩, fun s0 E nw => ⟨fun b u e nb => ?_, fun _ _ _ _ h _ => absurd trivial h, E.mono, fun _ h => absurd trivial h⟩⟩
  · dsimp only at q ⊢
    rw [getV_set] at q
    by_cases hj : j = i
    · subst hj
      rw [if_pos ⟨rfl, hl⟩] at q
      cases q
      rw [if_pos rfl]
      exact ⟨v, hv, o⟩
    · rw [if_neg (fun z => hj z.1.symm)] at q
      rw [if_neg hj]
      obtain ⟨w, e1, o1⟩ := R.at_ j y q
      exact ⟨w, e1, o1.mono (fun _ _ e => e) fun b hb u e => by rw [hH b fun z => hj (R.sep j i b hb z)]; exact e⟩
  · dsimp only at q ⊢
    rw [getV_set] at q
    by_cases hj : j = i
    · subst hj
      rw [if_pos ⟨rfl, hl⟩] at q
      cases q
    · rw [if_neg (fun z => hj z.1.symm)] at q
      rw [if_neg hj]
      exact R.no j q
  · dsimp only
    rw [hH b fun z => by rw [R.dis i b z] at e; cases e]
    exact R.sub b u e
  · dsimp only at hb
    by_cases hj : j = i
    · rw [if_pos hj] at hb
      rcases hF' b hb with z | z
      · exact R.dis i b z
      · exact (hF b z).1
    · rw [if_neg hj] at hb; exact R.dis j b hb
  · dsimp only
    split
    · exact nd
    · exact R.nd j
  · dsimp only at hb hb'
    by_cases hj : j = i
    · by_cases hj' : j' = i
      · rw [hj, hj']
      · rw [if_pos hj] at hb
        rw [if_neg hj'] at hb'
        rcases hF' b hb with z | z
        · exact absurd (R.sep j' i b hb' z) hj'
        · exact absurd hb' ((hF b z).2 j')
    · rw [if_neg hj] at hb
      by_cases hj' : j' = i
      · rw [if_pos hj'] at hb'
        rcases hF' b hb' with z | z
        · exact absurd (R.sep j i b hb z) hj
        · exact absurd hb ((hF b z).2 j)
      · rw [if_neg hj'] at hb'
        exact R.sep j j' b hb hb'
  · obtain ⟨e1, n1, g1⟩ := E.far b u e nb
    refine ⟨by dsimp only; rw [hH b (n1 i)]; exact e1, fun j hj => ?_, g1⟩
    dsimp only at hj
    by_cases h : j = i
    · rw [if_pos h] at hj
      rcases hF' b hj with z | z
      · exact n1 i z
      · exact nw b u e nb z
    · rw [if_neg h] at hj; exact n1 j hj
/-- the list of a slot itself gets other items -/
theorem Rel.poke0 {s : Sta} {i n : Nat} {xs : List PV} (R : RelS D ms σ s) (h1 : gm ms i = n + 1) (hx : getV s.env i = some (.lst xs)) :
    ∃ p vs Fs, σ[i]? = some (some (.ref p)) ∧ s.H p = some (.lst vs) ∧ s.Fp i = p :: Fs ∧ OwnRs D s.G s.H n xs vs Fs ∧
      ∀ xs' vs' Fs' F, OwnRs D s.G s.H n xs' vs' Fs' → Fs'.Nodup → (∀ b, b ∈ Fs' → b ∈ Fs ∨ b ∈ F) → (∀ b, b ∈ F → s.G b = none ∧ ∀ j, b ∉ s.Fp j) →
        ∃ Fp', RelS D ms σ ⟨s.env.set i (some (.lst xs')), upd s.H p (.lst vs'), s.G, Fp'⟩ ∧ ∀ s0, ExtA s0 s → New s0.H s0.Fp F → ExtA s0 ⟨s.env.set i (some (.lst xs')), upd s.H p (.lst vs'), s.G, Fp'⟩ := by
  obtain ⟨v, e1, o⟩ := R.at_ i _ hx
  have nd := R.nd i
  rw [h1] at o
  obtain ⟨p, vs, Fs, rfl, hp, hF, os⟩ := o
  rw [hF] at nd
  obtain ⟨np, nd⟩ := List.nodup_cons.mp nd
  refine ⟨p, vs, Fs, e1, hp, hF, os, fun xs' vs' Fs' F o' nd' m hd => ?_⟩
  have npF' : p ∉ Fs' := fun z => by
    rcases m p z with z | z
    · exact np z
    · exact (hd p z).2 i (by rw [hF]; simp)
  have := Rel.pokeN (F := F) (F' := p :: Fs') (x' := .lst xs') (H' := upd s.H p (.lst vs')) R hx e1 (fun b hb => upd_ne fun z => hb (by rw [z, hF]; simp)) (by
    rw [h1]
    exact ⟨p, vs', Fs', rfl, upd_same, rfl, o'.mono (fun _ _ e => e) fun b hb u e => by rw [upd_ne fun z : b = p => npF' (by rw [← z]; exact hb)]; exact e⟩) (List.nodup_cons.mpr ⟨npF', nd'⟩) (fun b hb => by
    rcases List.mem_cons.mp hb with rfl | hb
    · left; rw [hF]; simp
    · rcases m b hb with z | z
      · left; rw [hF]; exact List.mem_cons_of_mem _ z
      · exact .inr z) hd
  exact ⟨_, this.1, this.2⟩
/-- a list within the list of a slot gets other items -/
theorem Rel.poke1 {s : Sta} {i n : Nat} {xs ys : List PV} {z : Int} (R : RelS D ms σ s) (h1 : gm ms i = n + 2) (hx : getV s.env i = some (.lst xs)) (hz : pix xs z = some (.lst ys)) :
    ∃ p vs j q us Fq, σ[i]? = some (some (.ref p)) ∧ s.H p = some (.lst vs) ∧ atI vs z = some (.ref q) ∧ s.H q = some (.lst us) ∧ (∀ w, setAt xs z w = some (xs.set j w)) ∧ OwnRs D s.G s.H n ys us Fq ∧ (∀ b, b ∈ Fq → b ∈ s.Fp i) ∧ Fq.Nodup ∧
      ∀ ys' us' Fq' F, OwnRs D s.G s.H n ys' us' Fq' → Fq'.Nodup → (∀ b, b ∈ Fq' → b ∈ Fq ∨ b ∈ F) → (∀ b, b ∈ F → s.G b = none ∧ ∀ j, b ∉ s.Fp j) →
        ∃ Fp', RelS D ms σ ⟨s.env.set i (some (.lst (xs.set j (.lst ys')))), upd s.H q (.lst us'), s.G, Fp'⟩ ∧ ∀ s0, ExtA s0 s → New s0.H s0.Fp F → ExtA s0 ⟨s.env.set i (some (.lst (xs.set j (.lst ys')))), upd s.H q (.lst us'), s.G, Fp'⟩ := by
  obtain ⟨v, e1, o⟩ := R.at_ i _ hx
  have nd := R.nd i
  rw [h1] at o
  obtain ⟨p, vs, Fs, rfl, hp, hF, os⟩ := o
  rw [hF] at nd
  obtain ⟨np, nd⟩ := List.nodup_cons.mp nd
  obtain ⟨j, hj, hs, hvs⟩ := pix_j hz
  obtain ⟨w, Fk, e3, e4, e5, e6, rep⟩ := os.item hj
  obtain ⟨q, us, Fq, rfl, hq, rfl, oq⟩ := e4
  obtain ⟨nq, ndq⟩ := List.nodup_cons.mp (e6 nd)
  have hqF : q ∈ Fs := e5 q (by simp)
  refine ⟨p, vs, j, q, us, Fq, e1, hp, ((hvs vs os.length.symm).1).trans e3, hq, hs, oq, fun b hb => by rw [hF]; exact List.mem_cons_of_mem _ (e5 b (List.mem_cons_of_mem _ hb)), ndq, fun ys' us' Fq' F o' nd' m hd => ?_⟩
  have nqF' : q ∉ Fq' := fun z => by
    rcases m q z with z | z
    · exact nq z
    · exact (hd q z).2 i (by rw [hF]; exact List.mem_cons_of_mem _ hqF)
  have fFs : ∀ b, b ∈ F → b ∉ Fs := fun b hb z => (hd b hb).2 i (by rw [hF]; exact List.mem_cons_of_mem _ z)
  obtain ⟨F', oF', ndF', mF'⟩ := rep (upd s.H q (.lst us')) (.lst ys') (.ref q) (q :: Fq') nd (fun b hb hn => upd_ne fun z => hn (by rw [z]; simp)) ⟨q, us', Fq', rfl, upd_same, rfl, o'.mono (fun _ _ e => e) fun b hb u e => by rw [upd_ne fun z : b = q => nqF' (by rw [← z]; exact hb)]; exact e⟩ (List.nodup_cons.mpr ⟨nqF', nd'⟩) (fun b hb => by
    rcases List.mem_cons.mp hb with rfl | hb
    · left; simp
    · rcases m b hb with z | z
      · left; exact List.mem_cons_of_mem _ z
      · exact .inr (fFs b z))
  have hvset : vs.set j (.ref q) = vs := by
    refine List.ext_getElem? fun k => ?_
    by_cases hk : j = k
    · subst hk
      have hl : j < vs.length := by
        by_cases q : j < vs.length
        · exact q
        · rw [List.getElem?_eq_none (by omega)] at e3; cases e3
      rw [List.getElem?_set_self hl, e3]
    · rw [List.getElem?_set_ne hk]
  rw [hvset] at oF'
  have mem' : ∀ b, b ∈ F' → b ∈ Fs ∨ b ∈ F := fun b hb => by
    rcases mF' b hb with z | z
    · rcases List.mem_cons.mp z with rfl | z
      · exact .inl hqF
      · rcases m b z with z | z
        · exact .inl (e5 b (List.mem_cons_of_mem _ z))
        · exact .inr z
    · exact .inl z.1
  have npF' : p ∉ F' := fun z => by
    rcases mem' p z with z | z
    · exact np z
    · exact (hd p z).2 i (by rw [hF]; simp)
  have hpq : p ≠ q := fun z => np (z ▸ hqF)
  have := Rel.pokeN (F := F) (F' := p :: F') (x' := .lst (xs.set j (.lst ys'))) (H' := upd s.H q (.lst us')) R hx e1 (fun b hb => upd_ne fun z => hb (by rw [z, hF]; exact List.mem_cons_of_mem _ hqF)) (by
    rw [h1]
    exact ⟨p, vs, F', rfl, by rw [upd_ne hpq]; exact hp, rfl, oF'⟩) (List.nodup_cons.mpr ⟨npF', ndF'⟩) (fun b hb => by
    rcases List.mem_cons.mp hb with rfl | hb
    · left; rw [hF]; simp
    · rcases mem' b hb with z | z
      · left; rw [hF]; exact List.mem_cons_of_mem _ z
      · exact .inr z) hd
  exact ⟨_, this.1, this.2⟩
theorem Tmp.fresh {n : Nat} {s : Sta} {F Fs : List Addr} {i : Nat} (t : Tmp D n x v s.H s.G s.Fp F) (h : ∀ b, b ∈ Fs → b ∈ s.Fp i) : ∀ b, b ∈ Fs → b ∉ F := fun b hb z => (t.dis b z).2 i (h b hb)
theorem ss_appN {i n : Nat} {nm mn : Str} (hm : mn = "append") (hN : X.N[i]? = some nm) (hv : Vis X.env.scope nm) (h1 : gm ms i = n + 1) (hd1 : (nm == ("__debug__" : Str)) = false) (hd2 : (nm == ("__classdict__" : Str)) = false) (ha : SE D X C W ms M (.own n) a ea) (hM : i ∉ M) (hB : dmOk ms B = true)
    (ha1 : attributeBase (.Name nm p2) mn X.env (eval (.Name nm p2) X.env) = eval (.Name nm p2) X.env) (hl : (p3.endLine == p4.line) = true) (hst : starEach [ea] X.env = (false, eval ea X.env) :: starEach [] X.env)
    (hk : (((((backTo p4 (starEach [ea] X.env)).all fun x => !x.fst) && (backToKw p4 (keywordEach [] X.env)).all fun x => x.fst.isSome) && decide ((([ea] : List Expr).length + ([] : List Keyword).length + if ([] : List Keyword).isEmpty = true then 0 else 1) < 30)) = true))
    (hsw : swapsWith (.Call (.Attribute (.Name nm p2) mn p3) [ea] [] p4) none pos.line X.env = pure false) :
    SS D X C W B L rm P ms ms (.app i [] a) (.Expr (.Call (.Attribute (.Name nm p2) mn p3) [ea] [] p4) pos) := by
  subst hm
  have hsz : sizeLine = 16777216 := rfl
  refine PS.imp (ps_expr (pe_bm PySem.F.plainAttrs_list PySem.F.slot_list_append PySem.F.type_list_append mt_append (pe_var hN hv hd1 hd2) (pa_cons ha pa_nil hst) ha1 hk hl hst rfl) hsw) fun Dn σ H ⟨env, G, Fp, R, h⟩ => ?_
  have h : PoS D W B L rm P ms σ ⟨env, H, G, Fp⟩ Dn (match getV env i with
    | some x => (match atPath [] x with
      | some (.lst _) => (evE C a env).then fun v e2 => onSlot i (onPath (appV v) []) e2
      | _ => .st)
    | none => .st) := h
  cases q : getV env i with
  | none => rw [q] at h; exact h.elim
  | some x =>
    rw [q] at h
    cases x with
    | lst xs =>
      have h : PoS D W B L rm P ms σ ⟨env, H, G, Fp⟩ Dn ((evE C a env).then fun v e2 => onSlot i (onPath (appV v) []) e2) := h
      obtain ⟨p, vs, Fs, e1, e2, _, rs, _⟩ := Rel.poke0 (s := ⟨env, H, G, Fp⟩) R h1 q
      refine ⟨_, e1, .inl ⟨rfl, vs, .inl (.inl e2)⟩, PoS.expr (ev := evE C a) (del := fun σ => Dlv D ms σ (.own n)) (M := M) h R hB fun y vy s1 R1 E1 d1 k1 => ?_⟩
      have q1 : getV s1.env i = some (.lst xs) := ((E1.same i hM).2).trans q
      obtain ⟨p', vs', Fs', e3, e4, e5, rs', pk⟩ := Rel.poke0 R1 h1 q1
      rw [e1] at e3
      cases e3
      have k1 : PoS D W B L rm P ms σ ⟨env, H, G, Fp⟩ Dn (match getV s1.env i with
        | some x => (match appV y x with
          | some y => .nx (s1.env.set i (some y))
          | none => .st)
        | none => .st) := k1
      rw [q1] at k1
      dsimp only [appV] at k1
      by_cases hz : xs.length < SZ
      · rw [grd, if_pos hz] at k1
        obtain ⟨F, t, nw⟩ := d1
        have nd := R1.nd i
        rw [e5] at nd
        obtain ⟨Fp', R2, E2⟩ := pk (xs ++ [y]) (vs' ++ [vy]) (Fs' ++ F) F (rs'.app (OwnRs.one t.own)) (List.nodup_append.mpr ⟨(List.nodup_cons.mp nd).2, t.nd, fun a ha b hb e => by
          subst e
          exact (t.dis a hb).2 i (by rw [e5]; exact List.mem_cons_of_mem _ ha)⟩) (fun b hb => List.mem_append.mp hb) t.dis
        exact ⟨p, vs', vy, rfl, rfl, e4, by rw [← rs'.length, hsz]; exact hz, k1 _ _ _ _ R2 (E2 _ E1.all_ nw) Kp.refl⟩
      · rw [grd, if_neg hz] at k1
        exact k1.elim
    | _ => exact h.elim
end
end Ev

/-! Ev19: stores and appends within, displays and comprehensions of owned lists. -/
namespace Ev
open PySem PySem.Spec PyProof.Rows L2
theorem storeV_some {kv y x z : PV} (h : storeV kv y x = some z) : ∃ xs n j x0, x = .lst xs ∧ kv = .int n ∧ xs[j]? = some x0 ∧ z = .lst (xs.set j y) ∧ ∀ m, m = xs.length → ixN m n = some j := by
  cases x <;> cases kv <;> simp [storeV] at h
  rename_i xs n
  obtain ⟨zs, hz, rfl⟩ := h
  obtain ⟨j, x0, h1, rfl, h2⟩ := setAt_j hz
  exact ⟨xs, n, j, x0, rfl, rfl, h1, rfl, h2⟩
theorem onPath1 {f : PV → Option PV} {k x z : PV} (h : onPath f [k] x = some z) : ∃ xs n y y', x = .lst xs ∧ k = .int n ∧ pix xs n = some y ∧ f y = some y' ∧ (setAt xs n y').map .lst = some z := by
  cases k <;> cases x <;> simp [onPath] at h
  rename_i n xs
  cases q : pix xs n with
  | none => rw [q] at h; cases h
  | some y =>
    rw [q] at h
    dsimp only [onPath] at h
    cases q2 : f y with
    | none => rw [q2] at h; cases h
    | some y' =>
      rw [q2] at h
      dsimp only at h
      exact ⟨xs, n, y, y', rfl, rfl, q, q2, by simpa using h⟩
section
variable {D : Dm} {X : Cx} {C : Calls} {W : WX} {B L : List Nat} {rm : Nat} {P : List Nat} {ms ms1 ms2 ms3 : List Nat} {M M1 M2 M3 : List Nat} {σ σ0 σ1 : L2.St} {s0 s1 s2 : Sta} {x y : PV} {v u : V} {dl dl1 dl2 dl3 : Dl} {a b c : CE} {ea eb ec tg : Expr} {pos p1 p2 p3 p4 p5 : Pos} {st : Stmt} {Dn : Ends}
theorem evEs1 {k : CE} {f : List PV → Env → O} : ∀ env, ((evEs C [k] env).then f) = (evE C k env).then fun kv e2 => f [kv] e2 := fun env => by
  show (((evE C k env).bind fun v e1 => (Ev.R.ok [] e1).bind fun vs e2 => .ok (v :: vs) e2).then _) = _
  cases evE C k env <;> rfl
theorem evEs2 {k k2 : CE} {f : List PV → Env → O} : ∀ env, ((evEs C [k, k2] env).then f) = (evE C k env).then fun kv e2 => (evE C k2 e2).then fun kv2 e3 => f [kv, kv2] e3 := fun env => by
  show (((evE C k env).bind fun v e1 => ((evE C k2 e1).bind fun v2 e3 => (Ev.R.ok [] e3).bind fun vs e2 => .ok (v2 :: vs) e2).bind fun vs e2 => .ok (v :: vs) e2).then _) = _
  cases evE C k env with
  | ok x e1 =>
    show (((evE C k2 e1).bind _).bind _).then f = (evE C k2 e1).then _
    cases evE C k2 e1 <;> rfl
  | ex _ _ => rfl
  | st => rfl
/-- an expression within a statement, not the first one -/
theorem PoS.exprA {α β : Type} {del : L2.St → α → β → Sta → Sta → Prop} {ev : Env → Ev.R α} {f : α → Env → O} {T : β → Hp → Prop} (h : PoS D W B L rm P ms2 σ s0 Dn ((ev s1.env).then f)) (R : RelS D ms σ s1) (E01 : ExtA s0 s1) (hB : dmOk ms B = true)
    (k : ∀ a b s2, RelS D ms σ s2 → ExtS M s1 s2 → del σ a b s1 s2 → PoS D W B L rm P ms2 σ s0 Dn (f a s2.env) → T b s2.H) : Rd D W ms M del ev σ s1.H T := by
  refine ⟨s1.env, s1.G, s1.Fp, R, ?_⟩
  unfold PoA
  cases e : ev s1.env with
  | ok a e1 =>
    intro b H' G' Fp' R' E' d
    rw [e] at h
    exact k a b ⟨e1, H', G', Fp'⟩ R' E' d h
  | ex c e1 =>
    intro H' G' Fp' R' E'
    rw [e] at h
    obtain ⟨G2, Fp2, R2, E2⟩ := Rel.dem R' hB
    exact h σ H' G2 Fp2 R2 (E01.trans (E'.all_.trans E2)) Kp.refl
  | st => rw [e] at h; exact h
/-- rows[k] = a list that is given away -/
theorem ss_stoN {i n : Nat} {nm : Str} {k : CE} {ek : Expr} (hN : X.N[i]? = some nm) (hv : Vis X.env.scope nm) (h1 : gm ms i = n + 1) (hd1 : (nm == ("__debug__" : Str)) = false) (hd2 : (nm == ("__classdict__" : Str)) = false) (ha : SE D X C W ms M (.own n) a ea) (hk : SE D X C W ms M1 dl k ek) (hop : opOk dl [] = true) (hB : dmOk ms B = true)
    (hpl : ∀ v, assign (.Subscript (.Name nm p2) ek p3) X.env v = (do let ov ← holding [v] (eval (.Name nm p2) X.env); let iv ← holding [v, ov] (eval ek X.env); standAt p3; holding [v, ov, iv] (setItem ov iv v); release [v, ov, iv] []))
    (w1 : swapsWithSole [.Subscript (.Name nm p2) ek p3] ea pos.line X.env = pure false) (w2 : swappedStores [.Subscript (.Name nm p2) ek p3] ea X.env = pure none) (w3 : List.map (fun x => x.snd) (assignEach [.Subscript (.Name nm p2) ek p3] X.env) = [assign (.Subscript (.Name nm p2) ek p3) X.env]) :
    SS D X C W B L rm P ms ms (.sto i [k] a) (.Assign [.Subscript (.Name nm p2) ek p3] ea pos) := by
  refine PS.imp (ps_asg ha (pg_sub (pe_var hN hv hd1 hd2) hk set_list hpl) w1 w2 w3) fun Dn σ H ⟨env, G, Fp, R, h⟩ => ?_
  refine PoS.expr (ev := evE C a) (del := fun σ => Dlv D ms σ (.own n)) (M := M) (f := fun v e1 => match getV e1 i with
    | some _ => (evEs C [k] e1).then fun q e2 => (match q.reverse with
      | k :: r => onSlot i (onPath (storeV k v) r.reverse) e2
      | [] => .st)
    | none => .st) h R hB fun y vy s1 R1 E1 d1 k1 => ?_
  cases q : getV s1.env i with
  | none => rw [q] at k1; exact k1.elim
  | some x0 =>
    rw [q] at k1
    obtain ⟨w, e1, _⟩ := R1.at_ i x0 q
    refine ⟨w, e1, ?_⟩
    dsimp only at k1
    rw [evEs1] at k1
    obtain ⟨F, t, nw⟩ := d1
    refine PoS.exprA (ev := evE C k) (del := fun σ => Dlv D ms σ dl) (M := M1) (f := fun kv e2 => onSlot i (storeV kv y) e2) k1 R1 E1.all_ hB fun kv vk s2 R2 E2 d2 k2 => ?_
    have k2 : PoS D W B L rm P ms σ ⟨env, H, G, Fp⟩ Dn (match getV s2.env i with
      | some x => (match storeV kv y x with
        | some y => .nx (s2.env.set i (some y))
        | none => .st)
      | none => .st) := k2
    cases q2 : getV s2.env i with
    | none => rw [q2] at k2; exact k2.elim
    | some x =>
      rw [q2] at k2
      cases q3 : storeV kv y x with
      | none => dsimp only at k2; rw [q3] at k2; exact k2.elim
      | some z =>
        dsimp only at k2
        rw [q3] at k2
        obtain ⟨xs, m, j, x0', rfl, rfl, hj, rfl, hix⟩ := storeV_some q3
        have t2 := t.carry E2
        obtain ⟨p, vs, Fs, e3, e4, e5, os, pk⟩ := Rel.poke0 R2 h1 q2
        rw [e1] at e3
        cases e3
        have := (d2.here hop R2).int
        subst this
        have nd := R2.nd i
        rw [e5] at nd
        have nd := (List.nodup_cons.mp nd).2
        obtain ⟨w0, Fk, g1, g2, g3, g4, rep⟩ := os.item hj
        have fr : ∀ b, b ∈ F → b ∉ Fs := fun b hb z => (t2.dis b hb).2 i (by rw [e5]; exact List.mem_cons_of_mem _ z)
        obtain ⟨F', o', nd', m'⟩ := rep s2.H y vy F nd (fun _ _ _ => rfl) t2.own t2.nd (fun b hb => .inr (fr b hb))
        obtain ⟨Fp', R3, E3⟩ := pk _ _ F' F o' nd' (fun b hb => (m' b hb).symm.imp (fun z => z.1) id) t2.dis
        exact ⟨p, vs, m, j, rfl, rfl, e4, hix _ os.length.symm, k2 _ _ _ _ R3 (E3 _ (E1.all_.trans E2.all_) nw) Kp.refl⟩
/-- rows[k][l] = v -/
theorem ss_sto2 {i n : Nat} {nm : Str} {k k2 : CE} {ek ek2 : Expr} (hN : X.N[i]? = some nm) (hv : Vis X.env.scope nm) (h1 : gm ms i = n + 2) (hd1 : (nm == ("__debug__" : Str)) = false) (hd2 : (nm == ("__classdict__" : Str)) = false) (ha : SE D X C W ms M (.own n) a ea) (hk : SE D X C W ms M1 dl k ek) (hk2 : SE D X C W ms M2 dl2 k2 ek2) (hop : opOk dl [] = true) (hop2 : opOk dl2 [] = true) (hM2 : M2.contains i = false) (hB : dmOk ms B = true) (hp : PlainIx ek)
    (hpl : ∀ v, assign (.Subscript (.Subscript (.Name nm p2) ek p5) ek2 p3) X.env v = (do let ov ← holding [v] (eval (.Subscript (.Name nm p2) ek p5) X.env); let iv ← holding [v, ov] (eval ek2 X.env); standAt p3; holding [v, ov, iv] (setItem ov iv v); release [v, ov, iv] []))
    (w1 : swapsWithSole [.Subscript (.Subscript (.Name nm p2) ek p5) ek2 p3] ea pos.line X.env = pure false) (w2 : swappedStores [.Subscript (.Subscript (.Name nm p2) ek p5) ek2 p3] ea X.env = pure none) (w3 : List.map (fun x => x.snd) (assignEach [.Subscript (.Subscript (.Name nm p2) ek p5) ek2 p3] X.env) = [assign (.Subscript (.Subscript (.Name nm p2) ek p5) ek2 p3) X.env]) :
    SS D X C W B L rm P ms ms (.sto2 i k k2 a) (.Assign [.Subscript (.Subscript (.Name nm p2) ek p5) ek2 p3] ea pos) := by
  refine PS.imp (ps_asg ha (pg_sub (pe_ix ix_list (pe_var hN hv hd1 hd2) hk hp) hk2 set_list hpl) w1 w2 w3) fun Dn σ H ⟨env, G, Fp, R, h⟩ => ?_
  refine PoS.expr (ev := evE C a) (del := fun σ => Dlv D ms σ (.own n)) (M := M) (f := fun v e1 => match getV e1 i with
    | some _ => (evE C k e1).then fun kv e2 => (match getV e2 i with
      | some x => (match idxL x kv with
        | some (.lst _) => (evE C k2 e2).then fun lv e3 => onSlot i (onPath (storeV lv v) [kv]) e3
        | _ => .st)
      | none => .st)
    | none => .st) h R hB fun y vy s1 R1 E1 d1 k1 => ?_
  cases q0 : getV s1.env i with
  | none => rw [q0] at k1; exact k1.elim
  | some x0 =>
  rw [q0] at k1
  obtain ⟨w, e1, _⟩ := R1.at_ i x0 q0
  refine ⟨w, e1, ?_⟩
  obtain ⟨F, t, nw⟩ := d1
  refine PoS.exprA (ev := evE C k) (del := fun σ => Dlv D ms σ dl) (M := M1) (f := fun kv e2 => match getV e2 i with
    | some x => (match idxL x kv with
      | some (.lst _) => (evE C k2 e2).then fun lv e3 => onSlot i (onPath (storeV lv y) [kv]) e3
      | _ => .st)
    | none => .st) k1 R1 E1.all_ hB fun kv vk s2 R2 E2 d2 k2' => ?_
  have t2 := t.carry E2
  cases q : getV s2.env i with
  | none => rw [q] at k2'; exact k2'.elim
  | some x =>
    rw [q] at k2'
    dsimp only at k2'
    cases q2 : idxL x kv with
    | none => rw [q2] at k2'; exact k2'.elim
    | some x1 =>
      rw [q2] at k2'
      cases x1 with
      | lst ys =>
        dsimp only at k2'
        have ik := d2.here hop R2
        cases x <;> cases kv <;> simp [idxL] at q2
        rename_i xs z
        cases ik.int
        obtain ⟨p, vs, j, q', us, Fq, g1, g2, g3, g4, g5, g6, g7, g8, _⟩ := Rel.poke1 R2 h1 q q2
        rw [e1] at g1
        cases g1
        refine ⟨p, vs, z, _, rfl, rfl, .inl (.inl g2), g3, ?_⟩
        refine PoS.exprA (ev := evE C k2) (del := fun σ => Dlv D ms σ dl2) (M := M2) (f := fun lv e3 => onSlot i (onPath (storeV lv y) [.int z]) e3) k2' R2 (E1.all_.trans E2.all_) hB fun lv vl s3 R3 E3 d3 k3 => ?_
        have hi : ¬ i ∈ M2 := by simpa using hM2
        have q3 : getV s3.env i = some (.lst xs) := ((E3.same i hi).2).trans q
        have t3 := t2.carry E3
        obtain ⟨p', vs', j', q'', us', Fq', f1, f2, f3, f4, f5, f6, f7, f8, pk⟩ := Rel.poke1 R3 h1 q3 q2
        have hq : q' = q'' := by
          rw [e1] at f1
          cases f1
          have := (E3.own i p _ (by
            obtain ⟨w1, w2, w3⟩ := R2.at_ i _ q
            rw [e1] at w2
            cases w2
            rw [h1] at w3
            obtain ⟨_, _, _, w4, _, w5, _⟩ := w3
            cases w4
            rw [w5]
            simp) hi g2)
          rw [f2] at this
          cases this
          rw [f3] at g3
          cases g3
          rfl
        subst hq
        have k3 : PoS D W B L rm P ms σ ⟨env, H, G, Fp⟩ Dn (match getV s3.env i with
          | some x => (match onPath (storeV lv y) [.int z] x with
            | some y => .nx (s3.env.set i (some y))
            | none => .st)
          | none => .st) := k3
        rw [q3] at k3
        dsimp only at k3
        cases q4 : onPath (storeV lv y) [.int z] (.lst xs) with
        | none => rw [q4] at k3; exact k3.elim
        | some zz =>
          rw [q4] at k3
          obtain ⟨xs', z', y1, y2, c1, c2, c3, c4, c5⟩ := onPath1 q4
          cases c1
          cases c2
          rw [q2] at c3
          cases c3
          obtain ⟨ys', m, j2, x2, r1, rfl, r3, rfl, r5⟩ := storeV_some c4
          cases r1
          rw [f5] at c5
          cases c5
          cases (d3.here hop2 R3).int
          obtain ⟨w0, Fk, u1, u2, u3, u4, rep⟩ := f6.item r3
          have fr : ∀ b, b ∈ F → b ∉ Fq' := fun b hb z => (t3.dis b hb).2 i (f7 b z)
          obtain ⟨F', o', nd', m'⟩ := rep s3.H y vy F f8 (fun _ _ _ => rfl) t3.own t3.nd (fun b hb => .inr (fr b hb))
          obtain ⟨Fp', R4, E4⟩ := pk _ _ F' F o' nd' (fun b hb => (m' b hb).symm.imp (fun z => z.1) id) t3.dis
          exact ⟨_, us', m, j2, rfl, rfl, f4, r5 _ f6.length.symm, k3 _ _ _ _ R4 (E4 _ (E1.all_.trans (E2.all_.trans E3.all_)) nw) Kp.refl⟩
      | _ => exact k2'.elim
/-- rows[k].append(v) -/
theorem ss_app1 {i n : Nat} {nm mn : Str} {k : CE} {ek : Expr} (hm : mn = "append") (hN : X.N[i]? = some nm) (hv : Vis X.env.scope nm) (h1 : gm ms i = n + 2) (hd1 : (nm == ("__debug__" : Str)) = false) (hd2 : (nm == ("__classdict__" : Str)) = false) (hk0 : SE D X C W ms M1 dl k ek) (hop : opOk dl [] = true) (hp : PlainIx ek) (ha : SE D X C W ms M (.own n) a ea) (hM : i ∉ M) (hB : dmOk ms B = true)
    (ha1 : attributeBase (.Subscript (.Name nm p2) ek p5) mn X.env (eval (.Subscript (.Name nm p2) ek p5) X.env) = eval (.Subscript (.Name nm p2) ek p5) X.env) (hl : (p3.endLine == p4.line) = true) (hst : starEach [ea] X.env = (false, eval ea X.env) :: starEach [] X.env)
    (hk : (((((backTo p4 (starEach [ea] X.env)).all fun x => !x.fst) && (backToKw p4 (keywordEach [] X.env)).all fun x => x.fst.isSome) && decide ((([ea] : List Expr).length + ([] : List Keyword).length + if ([] : List Keyword).isEmpty = true then 0 else 1) < 30)) = true))
    (hsw : swapsWith (.Call (.Attribute (.Subscript (.Name nm p2) ek p5) mn p3) [ea] [] p4) none pos.line X.env = pure false) :
    SS D X C W B L rm P ms ms (.app1 i k a) (.Expr (.Call (.Attribute (.Subscript (.Name nm p2) ek p5) mn p3) [ea] [] p4) pos) := by
  subst hm
  have hsz : sizeLine = 16777216 := rfl
  refine PS.imp (ps_expr (pe_bm PySem.F.plainAttrs_list PySem.F.slot_list_append PySem.F.type_list_append mt_append (pe_ix ix_list (pe_var hN hv hd1 hd2) hk0 hp) (pa_cons ha pa_nil hst) ha1 hk hl hst rfl) hsw) fun Dn σ H ⟨env, G, Fp, R, h⟩ => ?_
  have h : PoS D W B L rm P ms σ ⟨env, H, G, Fp⟩ Dn (match getV env i with
    | some _ => (evE C k env).then fun kv e1 => (match getV e1 i with
      | some x => (match idxL x kv with
        | some (.lst _) => (evE C a e1).then fun v e2 => onSlot i (onPath (appV v) [kv]) e2
        | _ => .st)
      | none => .st)
    | none => .st) := h
  cases q0 : getV env i with
  | none => rw [q0] at h; exact h.elim
  | some x0 =>
  rw [q0] at h
  obtain ⟨w, e1, _⟩ := R.at_ i x0 q0
  refine ⟨w, e1, ?_⟩
  refine PoS.expr (ev := evE C k) (del := fun σ => Dlv D ms σ dl) (M := M1) (f := fun kv e1 => match getV e1 i with
      | some x => (match idxL x kv with
        | some (.lst _) => (evE C a e1).then fun v e2 => onSlot i (onPath (appV v) [kv]) e2
        | _ => .st)
      | none => .st) h R hB fun kv vk s2 R2 E2 d2 k2' => ?_
  cases q : getV s2.env i with
  | none => rw [q] at k2'; exact k2'.elim
  | some x =>
    rw [q] at k2'
    dsimp only at k2'
    cases q2 : idxL x kv with
    | none => rw [q2] at k2'; exact k2'.elim
    | some x1 =>
      rw [q2] at k2'
      cases x1 with
      | lst ys =>
        dsimp only at k2'
        have ik := d2.here hop R2
        cases x <;> cases kv <;> simp [idxL] at q2
        rename_i xs z
        cases ik.int
        obtain ⟨p, vs, j, q', us, Fq, g1, g2, g3, g4, g5, g6, g7, g8, _⟩ := Rel.poke1 R2 h1 q q2
        rw [e1] at g1
        cases g1
        refine ⟨p, vs, z, _, rfl, rfl, .inl (.inl g2), g3, .inl ⟨rfl, us, .inl (.inl g4)⟩, ?_⟩
        refine PoS.exprA (ev := evE C a) (del := fun σ => Dlv D ms σ (.own n)) (M := M) (f := fun v e2 => onSlot i (onPath (appV v) [.int z]) e2) k2' R2 E2.all_ hB fun y vy s3 R3 E3 d3 k3 => ?_
        obtain ⟨F, t3, nw⟩ := d3
        have hi : ¬ i ∈ M := hM
        have q3 : getV s3.env i = some (.lst xs) := ((E3.same i hi).2).trans q
        obtain ⟨p', vs', j', q'', us', Fq', f1, f2, f3, f4, f5, f6, f7, f8, pk⟩ := Rel.poke1 R3 h1 q3 q2
        have hq : q' = q'' := by
          rw [e1] at f1
          cases f1
          have := (E3.own i p _ (by
            obtain ⟨w1, w2, w3⟩ := R2.at_ i _ q
            rw [e1] at w2
            cases w2
            rw [h1] at w3
            obtain ⟨_, _, _, w4, _, w5, _⟩ := w3
            cases w4
            rw [w5]
            simp) hi g2)
          rw [f2] at this
          cases this
          rw [f3] at g3
          cases g3
          rfl
        subst hq
        have k3 : PoS D W B L rm P ms σ ⟨env, H, G, Fp⟩ Dn (match getV s3.env i with
          | some x => (match onPath (appV y) [.int z] x with
            | some y => .nx (s3.env.set i (some y))
            | none => .st)
          | none => .st) := k3
        rw [q3] at k3
        dsimp only at k3
        cases q4 : onPath (appV y) [.int z] (.lst xs) with
        | none => rw [q4] at k3; exact k3.elim
        | some zz =>
          rw [q4] at k3
          obtain ⟨xs', z', y1, y2, c1, c2, c3, c4, c5⟩ := onPath1 q4
          cases c1
          cases c2
          rw [q2] at c3
          cases c3
          have c4 : grd (ys.length < SZ) (PV.lst (ys ++ [y])) = some y2 := c4
          by_cases hz : ys.length < SZ
          · rw [grd, if_pos hz] at c4
            cases c4
            rw [f5] at c5
            cases c5
            obtain ⟨Fp', R4, E4⟩ := pk (ys ++ [y]) (us' ++ [vy]) (Fq' ++ F) F (f6.app (OwnRs.one t3.own)) (List.nodup_append.mpr ⟨f8, t3.nd, fun a ha b hb e => by
              subst e
              exact (t3.dis a hb).2 i (f7 a ha)⟩) (fun b hb => List.mem_append.mp hb) t3.dis
            exact ⟨_, us', vy, rfl, rfl, f4, by rw [← f6.length, hsz]; exact hz, k3 _ _ _ _ R4 (E4 _ (E2.all_.trans E3.all_) fun b o e n' => by
              obtain ⟨e1, n1, _⟩ := E2.far b o e n'
              exact nw b o e1 n1) Kp.refl⟩
          · rw [grd, if_neg hz] at c4
            cases c4
      | _ => exact k2'.elim
theorem get_list : PGet X (rIxL X.K) := by
  intro pins s σ H x y v u Q I rx ry h
  obtain ⟨p, xs, i, z, rfl, rfl, hq, he, q⟩ := h
  cases rx
  obtain ⟨t, rfl⟩ := ry
  obtain ⟨its, r, pl, hz⟩ := I.list hq
  obtain ⟨j, h1, h2, h3, h4, h5⟩ := atI_get he
  obtain ⟨w, ew, rw'⟩ := r.get h2
  have hl := r.length
  have hn := line63
  have fin : EP X pins σ Q w s := ⟨z, H, I, rw', q⟩
  by_cases h0 : 0 ≤ i
  · have hj : i.toNat = j := by
      rw [seqIndex_of h0 h5] at h1
      exact Option.some.inj h1
    exact wpAny_getItem_list (x := w) pl.isList h0 (by omega) (by rw [hj]; simpa using ew) fin
  · have hj : (i + (its.toArray.size : Int)).toNat = j := by
      rw [seqIndex_neg (by omega) h4] at h1
      rw [List.size_toArray, ← hl]
      exact Option.some.inj h1
    exact wpAny_getItem_list_neg (x := w) pl.isList (by omega) (by rw [List.size_toArray] <;> omega) (by omega) (by rw [hj]; simpa using ew) fin
theorem ss_augS {i : Nat} {op : BO} {eo : Operator} {nm : Str} {k : CE} {ek : Expr} (e : D.K = X.K) (ho : opOf op = eo) (hop : op = .add ∨ op = .sub) (hN : X.N[i]? = some nm) (hv : Vis X.env.scope nm) (h1 : gm ms i = 1) (hd1 : (nm == ("__debug__" : Str)) = false) (hd2 : (nm == ("__classdict__" : Str)) = false) (hk : SE D X C W ms M1 dl k ek) (hopk : opOk dl [] = true) (ha : SE D X C W ms M dl2 a ea) (hopa : opOk dl2 [] = true) (hM : M.contains i = false) (hB : dmOk ms B = true)
    (haug : ∀ ov iv new, augStore ek ov iv new = (do holding [new, ov, iv] (setItem ov iv new); release [new, ov, iv] []; pure .next)) :
    SS D X C W B L rm P ms ms (.augS i k op a) (.AugAssign (.Subscript (.Name nm p2) ek p3) eo ea pos) := by
  subst ho
  have hp : PIp X (opOf op) (fun x y H Q => ∃ i j k, x = .int i ∧ y = .int j ∧ aop op (.int i) (.int j) = some (.int k) ∧ Q (.int k) H) := by
    intro pins s σ H x y v u Q I rx ry ⟨i, j, k, e1, e2, e3, q⟩
    rcases hop with rfl | rfl
    · cases e3
      exact ip_add pins s σ H x y v u Q I rx ry ⟨i, j, e1, e2, q⟩
    · cases e3
      exact ip_sub pins s σ H x y v u Q I rx ry ⟨i, j, e1, e2, q⟩
  have key := ps_augS (pos := pos) (tpos := p3) (pe_var (pos := p2) hN hv hd1 hd2) hk get_list ha hp set_list haug
  refine PS.imp key fun Dn σ H ⟨env, G, Fp, R, h⟩ => ?_
  have h : PoS D W B L rm P ms σ ⟨env, H, G, Fp⟩ Dn (match getV env i with
    | some _ => (evE C k env).then fun k e1 => (match getV e1 i with
      | some x => (match idxL x k with
        | some y => (evE C a e1).then fun v e2 => (match aop op y v with
          | some z => onSlot i (storeV k z) e2
          | none => .st)
        | none => .st)
      | none => .st)
    | none => .st) := h
  cases q0 : getV env i with
  | none => rw [q0] at h; exact h.elim
  | some x0 =>
  rw [q0] at h
  obtain ⟨w, e1, _⟩ := R.at_ i x0 q0
  refine ⟨w, e1, ?_⟩
  refine PoS.expr (ev := evE C k) (del := fun σ => Dlv D ms σ dl) (M := M1) (f := fun k e1 => match getV e1 i with
      | some x => (match idxL x k with
        | some y => (evE C a e1).then fun v e2 => (match aop op y v with
          | some z => onSlot i (storeV k z) e2
          | none => .st)
        | none => .st)
      | none => .st) h R hB fun kv vk s1 R1 E1 d1 k1 => ?_
  cases q : getV s1.env i with
  | none => rw [q] at k1; exact k1.elim
  | some x =>
    rw [q] at k1
    dsimp only at k1
    cases q2 : idxL x kv with
    | none => rw [q2] at k1; exact k1.elim
    | some y =>
      rw [q2] at k1
      dsimp only at k1
      have ik := d1.here hopk R1
      cases x <;> cases kv <;> simp [idxL] at q2
      rename_i xs z
      cases ik.int
      obtain ⟨p, vs, g1, g2, rs, _⟩ := R1.poke h1 q
      rw [e1] at g1
      cases g1
      obtain ⟨j, hj, hs, hvs⟩ := pix_j q2
      obtain ⟨w', g3, g4⟩ := rs.get hj
      have hz := hvs vs rs.length.symm
      refine ⟨p, vs, z, w', rfl, rfl, .inl (.inl g2), hz.1.trans g3, ?_⟩
      refine PoS.exprA (ev := evE C a) (del := fun σ => Dlv D ms σ dl2) (M := M) (f := fun v e2 => match aop op y v with
          | some zz => onSlot i (storeV (.int z) zz) e2
          | none => .st) k1 R1 E1.all_ hB fun v vv s2 R2 E2 d2 k2 => ?_
      cases q3 : aop op y v with
      | none => rw [q3] at k2; exact k2.elim
      | some zz =>
        rw [q3] at k2
        have hh : ∃ i j k, y = .int i ∧ v = .int j ∧ zz = .int k := by
          cases op <;> cases y <;> cases v <;> simp [aop] at q3 <;> exact ⟨_, _, _, rfl, rfl, q3.symm⟩
        obtain ⟨m, n, k, rfl, rfl, rfl⟩ := hh
        cases (d2.here hopa R2).int
        have e2 : w' = .int m := g4
        subst e2
        refine ⟨m, n, k, rfl, rfl, q3, ?_⟩
        have hi : ¬ i ∈ M := by simpa using hM
        have q4 : getV s2.env i = some (.lst xs) := ((E2.same i hi).2).trans q
        obtain ⟨p', vs', f1, f2, rs', pk⟩ := R2.poke h1 q4
        rw [e1] at f1
        cases f1
        have k2 : PoS D W B L rm P ms σ ⟨env, H, G, Fp⟩ Dn (match getV s2.env i with
          | some x => (match storeV (.int z) (.int k) x with
            | some y => .nx (s2.env.set i (some y))
            | none => .st)
          | none => .st) := k2
        rw [q4] at k2
        dsimp only [storeV] at k2
        rw [hs] at k2
        have set_rep : ∀ (xs : List PV) (vs : List V) (j : Nat), RepVs D s2.G xs vs → RepVs D s2.G (xs.set j (.int k)) (vs.set j (.int k)) := fun xs => by
          induction xs with
          | nil => intro vs j r; cases r; exact rfl
          | cons x xs ih =>
            intro vs j r
            obtain ⟨v, r', rfl, h1, h2⟩ := r
            cases j with
            | zero => exact ⟨.int k, r', rfl, rfl, h2⟩
            | succ j => exact ⟨v, r'.set j (.int k), rfl, h1, ih r' j h2⟩
        obtain ⟨R3, E3⟩ := pk _ _ (set_rep xs vs' j rs')
        exact ⟨p, vs', z, j, rfl, rfl, f2, (hvs vs' rs'.length.symm).2, k2 _ _ _ _ R3 (E1.all_.trans (E2.all_.trans E3.all_)) Kp.refl⟩
end
end Ev

/-! Ev20: displays and comprehensions of owned lists. -/
namespace Ev
open PySem PySem.Spec PyProof.Rows L2
section
variable {D : Dm} {X : Cx} {C : Calls} {W : WX} {B L : List Nat} {rm : Nat} {P : List Nat} {ms ms1 ms2 ms3 : List Nat} {M M1 M2 M3 : List Nat} {σ σ0 σ1 : L2.St} {s0 s1 s2 : Sta} {x y : PV} {v u : V} {dl dl1 dl2 dl3 : Dl} {a b c : CE} {ea eb ec tg : Expr} {pos p1 p2 p3 p4 p5 : Pos} {st : Stmt} {Dn : Ends}
/-- items on their way -/
def DlvO (D : Dm) (n : Nat) (xs : List PV) (vs : List V) (s0 s : Sta) : Prop := ∃ F, OwnRs D s.G s.H n xs vs F ∧ (∀ b, b ∈ F → s.G b = none ∧ ∀ i, b ∉ s.Fp i) ∧ F.Nodup ∧ New s0.H s0.Fp F
def SAo (D : Dm) (X : Cx) (C : Calls) (W : WX) (ms : List Nat) (n : Nat) (M : List Nat) (cs : List CE) (es : List Expr) : Prop := PA X es (Rd D W ms M (fun _ xs vs s0 s => DlvO D n xs vs s0 s) (evEs C cs))
theorem sao_nil {n : Nat} : SAo D X C W ms n [] [] [] := PA.imp pa_nil fun σ H Q ⟨env, G, Fp, R, h⟩ => h [] H G Fp R Ext.refl ⟨[], ⟨rfl, rfl⟩, fun _ h => (nomatch h), List.Pairwise.nil, fun _ _ _ _ => List.not_mem_nil⟩
theorem sao_cons {n : Nat} {cs : List CE} {es : List Expr} (ha : SE D X C W ms M1 (.own n) a ea) (hs : SAo D X C W ms n M2 cs es) (hst : starEach (ea :: es) X.env = (false, eval ea X.env) :: starEach es X.env) : SAo D X C W ms n (M1 ++ M2) (a :: cs) (ea :: es) := by
  refine PA.imp (pa_cons ha hs hst) fun σ H Q ⟨env, G, Fp, R, h⟩ => ?_
  refine PoA.next (s1 := ⟨env, H, G, Fp⟩) (del0 := fun σ => Dlv D ms σ (.own n)) (ev := evE C a) h R Ext.refl memL fun x vx s1 R1 E1 E1' d1 k1 => ?_
  refine PoA.next (del0 := fun _ xs vs s0 s => DlvO D n xs vs s0 s) (ev := evEs C cs) k1 R1 E1' memR fun xs vs s2 R2 E2 E2' d2 k2 => ?_
  obtain ⟨F1, t1, n1⟩ := d1
  obtain ⟨F2, o2, ds2, nd2, n2⟩ := d2
  have t2 := t1.carry E2
  refine k2 (vx :: vs) _ _ _ R2 E2' ⟨F1 ++ F2, ⟨vx, vs, F1, F2, rfl, rfl, t2.own, o2⟩, fun b hb => ?_, List.nodup_append.mpr ⟨t1.nd, nd2, fun b hb c hc e => ?_⟩, fun b o e n hb => ?_⟩
  · rcases List.mem_append.mp hb with hb | hb
    · exact t2.dis b hb
    · exact ds2 b hb
  · subst e
    obtain ⟨us, hh⟩ := t1.own.mem b hb
    exact n2 b _ hh (t1.dis b hb).2 hc
  · rcases List.mem_append.mp hb with hb | hb
    · exact n1 b o e n hb
    · obtain ⟨e1, m1, _⟩ := E1.far b o e n
      exact n2 b o e1 m1 hb
theorem s_lstO {n : Nat} {cs : List CE} {es : List Expr} {d : Nat} (hs : SAo D X C W ms n M cs es) (hl : decide (cs.length ≤ 10000) = true) : SE D X C W ms M (.own (n + 1)) (.lst d cs) (.List es pos) := by
  have hl : cs.length ≤ 10000 := of_decide_eq_true hl
  refine PE.imp (pe_lst hs) fun σ H Q ⟨env, G, Fp, R, h⟩ => ?_
  refine PoA.nextE (s1 := ⟨env, H, G, Fp⟩) (del0 := fun _ xs vs s0 s => DlvO D n xs vs s0 s) (ev := evEs C cs) h R Ext.refl (fun _ h => h) fun xs vs s1 ee R1 E1 E1' d1 k1 => ?_
  obtain ⟨F, o, ds, nd, nw⟩ := d1
  refine ⟨?_, fun p hp => ?_⟩
  · rw [← o.length, evEs_len ee]
    show cs.length ≤ 16777216
    omega
  · obtain ⟨R2, E2, t2, n2⟩ := newL R1 E1' hp o ds nd nw
    exact k1 _ _ _ _ R2 E2 ⟨_, t2, n2⟩
/-! ### a comprehension of owned lists -/
structure CpO (D : Dm) (n : Nat) (ms : List Nat) (M os : List Nat) (σ : L2.St) (s1 : Sta) (p : Addr) (acc : List PV) (ei : Env) (H : Hp) : Prop where
  ex : ∃ G Fp vs Fs, RelS D ms (wipe σ os) ⟨wipeE ei os, H, G, Fp⟩ ∧ H p = some (.lst vs) ∧ OwnRs D G H n acc vs Fs ∧ (∀ b, b ∈ p :: Fs → G b = none ∧ ∀ i, b ∉ Fp i) ∧ (p :: Fs).Nodup ∧ New s1.H s1.Fp Fs ∧
    (∀ b o, s1.H b = some o → (∀ i, b ∉ s1.Fp i) → H b = some o ∧ (∀ i, b ∉ Fp i) ∧ (s1.G b = none → G b = none)) ∧
    (∀ i b o, b ∈ s1.Fp i → i ∉ M → s1.H b = some o → H b = some o) ∧ (∀ b o, s1.G b = some o → G b = some o) ∧ (∀ i, i ∉ M → i ∉ os → Fp i = s1.Fp i ∧ getV ei i = getV s1.env i) ∧ (∀ i, i ∉ M → Fp i = s1.Fp i) ∧ ei.length = s1.env.length
theorem fin_listO {n : Nat} {f : PV → Env → Ev.R (Option PV)} {xs : List PV} {env : Env} {g : List PV → Env → Ev.R PV} {Q : V → Hp → Prop}
    (h : PoA D W ms σ M (Dlv D ms σ (.own n)) s0 ((noX (compL f xs env)).bind g) Q) (hg : ∀ vs e, g vs e = if vs.length ≤ SZ then .ok (.lst vs) (backE env e M1) else .st) :
    ∃ vs e6, compL f xs env = .ok vs e6 ∧ vs.length ≤ SZ ∧ ∀ b H G Fp, RelS D ms σ ⟨backE env e6 M1, H, G, Fp⟩ → ExtS M s0 ⟨backE env e6 M1, H, G, Fp⟩ → Dlv D ms σ (.own n) (.lst vs) b s0 ⟨backE env e6 M1, H, G, Fp⟩ → Q b H := by
  cases e : compL f xs env with
  | ok vs e6 =>
    rw [e] at h
    have h : PoA D W ms σ M (Dlv D ms σ (.own n)) s0 (g vs e6) Q := h
    rw [hg] at h
    by_cases hl : vs.length ≤ SZ
    · rw [if_pos hl] at h
      exact ⟨vs, e6, rfl, hl, h⟩
    · rw [if_neg hl] at h
      exact h.elim
  | ex c e6 => rw [e] at h; exact h.elim
  | st => rw [e] at h; exact h.elim
theorem CpO.fin {n : Nat} {os : List Nat} {p : Addr} {acc : List PV} {ei : Env} {H : Hp} (I : CpO D n ms M os σ s1 p acc ei H) (R1 : RelS D ms σ s1) (E1 : ExtS M s0 s1) (h0 : ∀ i, i ∈ os → gm ms i = 0) (hp : s1.H p = none) {Q : V → Hp → Prop}
    (k : ∀ b H G Fp, RelS D ms σ ⟨backE s1.env ei os, H, G, Fp⟩ → ExtS M s0 ⟨backE s1.env ei os, H, G, Fp⟩ → Dlv D ms σ (.own (n + 1)) (.lst acc) b s0 ⟨backE s1.env ei os, H, G, Fp⟩ → Q b H) : Q (.ref p) H := by
  obtain ⟨G, Fp, vs, Fs, R, hv, rv, np, ndp, nw, far, own, mono, same, sameF, len⟩ := I.ex
  have E : ExtS M s1 ⟨backE s1.env ei os, H, G, Fp⟩ := by
    refine ⟨far, fun i b o hb hm e => own i b o hb hm e, mono, fun i hm => ⟨sameF i hm, ?_⟩⟩
    dsimp only
    rw [getV_backE os _ _ _ len.symm]
    by_cases hi : i ∈ os
    · rw [if_pos hi]
    · rw [if_neg hi]
      exact (same i hm hi).2
  refine k (.ref p) H G Fp ?_ (E1.trans E) ⟨p :: Fs, ⟨⟨p, vs, Fs, rfl, hv, rfl, rv⟩, np, ndp⟩, fun b o e n hb => ?_⟩
  · refine ⟨fun j y q => ?_, fun j q => ?_, R.sub, R.dis, R.nd, R.sep, by rw [backE_len, len]; exact R1.len⟩
    · dsimp only at q
      rw [getV_backE os _ _ _ len.symm] at q
      by_cases hj : j ∈ os
      · rw [if_pos hj] at q
        obtain ⟨v, e1, o⟩ := R1.at_ j y q
        rw [h0 j hj] at o ⊢
        exact ⟨v, e1, OwnR.zero.mpr ⟨R.empty (h0 j hj), RepV.mono mono (OwnR.zero.mp o).2⟩⟩
      · rw [if_neg hj] at q
        have := R.at_ j y (by dsimp only; rw [getV_wipeE, if_neg hj]; exact q)
        rw [wipe_get os σ j hj] at this
        exact this
    · dsimp only at q
      rw [getV_backE os _ _ _ len.symm] at q
      by_cases hj : j ∈ os
      · exact R.empty (h0 j hj)
      · rw [if_neg hj] at q
        exact R.no j (by dsimp only; rw [getV_wipeE, if_neg hj]; exact q)
  · obtain ⟨e1, n1, _⟩ := E1.far b o e n
    rcases List.mem_cons.mp hb with rfl | hb
    · rw [hp] at e1
      cases e1
    · exact nw b o e1 n1 hb
theorem CpO.start {n : Nat} {os : List Nat} {p : Addr} (R1 : RelS D ms σ s1) (h0 : ∀ i, i ∈ os → gm ms i = 0) (hp : s1.H p = none) : CpO D n ms M os σ s1 p [] s1.env (upd s1.H p (.lst [])) where
  ex := by
    have gp : s1.G p = none := by
      cases q : s1.G p with
      | none => rfl
      | some o => rw [R1.sub _ _ q] at hp; cases hp
    have np : ∀ i, p ∉ s1.Fp i := fun i hb => by
      obtain ⟨vs, e⟩ := R1.has hb
      rw [hp] at e; cases e
    have mh : ∀ b u, s1.H b = some u → upd s1.H p (.lst []) b = some u := fun b u e => by rw [upd_ne (ne_of_none e hp)]; exact e
    exact ⟨s1.G, s1.Fp, [], [], (Rel.wiped R1 h0).other np gp, upd_same, ⟨rfl, rfl⟩, fun b hb => by
      rw [List.mem_singleton] at hb
      subst hb
      exact ⟨gp, np⟩, by simp, fun _ _ _ _ => List.not_mem_nil, fun b o e n => ⟨mh b o e, n, fun q => q⟩, fun i b o _ _ e => mh b o e, fun _ _ e => e, fun _ _ _ => ⟨rfl, rfl⟩, fun _ _ => rfl, rfl⟩
/-- what a comprehension's own lists are behind a turn -/
theorem own_far {n : Nat} {acc : List PV} {vs : List V} {Fs : List Addr} {p : Addr} {s s' : Sta} (rv : OwnRs D s.G s.H n acc vs Fs) (hv : s.H p = some (.lst vs)) (np : ∀ b, b ∈ p :: Fs → s.G b = none ∧ ∀ i, b ∉ s.Fp i) (E : ExtS M s s') :
    s'.H p = some (.lst vs) ∧ OwnRs D s'.G s'.H n acc vs Fs ∧ ∀ b, b ∈ p :: Fs → s'.G b = none ∧ ∀ i, b ∉ s'.Fp i := by
  refine ⟨(E.far p _ hv (np p (by simp)).2).1, rv.mono E.mono fun b hb o e => (E.far b o e (np b (List.mem_cons_of_mem _ hb)).2).1, fun b hb => ?_⟩
  have hh : ∃ o, s.H b = some o := by
    rcases List.mem_cons.mp hb with rfl | hb
    · exact ⟨_, hv⟩
    · obtain ⟨us, e⟩ := rv.mem b hb
      exact ⟨_, e⟩
  obtain ⟨o, e⟩ := hh
  obtain ⟨_, n1, g1⟩ := E.far b o e (np b hb).2
  exact ⟨g1 (np b hb).1, n1⟩
theorem cp_readO {n : Nat} {it : CI} {os : List Nat} {t : Ev.TG} {ifs : Option CE} {d : Nat} {H : Hp} {Q : VK} (h0 : ∀ i, i ∈ os → gm ms i = 0) (htg : ∀ i, i ∈ tgs t → i ∈ os)
    (h : Rd D W ms (M1 ++ (M2 ++ M3)) (fun σ => Dlv D ms σ (.own (n + 1))) (evE C (.cp d os t it ifs c)) σ H Q) :
    tLc (Rd D W ms M1 (fun _ xs J _ s => ItOk D s.G xs J) (evI C it)) (RdG D ms t) (Rd D WF ms M2 (fun _ (a b : Bool) _ _ => a = b) (evC C ifs)) (Rd D WF ms M3 (fun σ => Dlv D ms σ (.own n)) (evE C c)) os σ H Q := by
  obtain ⟨env, G, Fp, R, h⟩ := h
  refine PoA.next (s1 := ⟨env, H, G, Fp⟩) (ev := evI C it) (del0 := fun _ xs J _ s => ItOk D s.G xs J) h R Ext.refl memL fun xs J s1 R1 E1 E1' d1 k1 => ?_
  obtain ⟨vs, e6, hcp, hl, kf⟩ := fin_listO k1 (fun _ _ => rfl)
  intro p hp
  refine ⟨fun i m H => m = xs.length - i ∧ i ≤ xs.length ∧ ∃ acc ei r, compL _ (xs.drop i) ei = .ok r e6 ∧ acc ++ r = vs ∧ CpO D n ms (M1 ++ (M2 ++ M3)) os σ s1 p acc ei H, ⟨_, rfl, Nat.zero_le _, [], s1.env, vs, hcp, rfl, CpO.start R1 h0 hp⟩, fun i m H ⟨hm, hi, acc, ei, r, hr, ha, I⟩ => ?_⟩
  have I0 := I
  obtain ⟨G, Fp, us, Fs, Ri, hv, rv, np, ndp, nwp, far, own, mono, same, sameF, len⟩ := I.ex
  obtain ⟨go, stp, yl⟩ := d1 H i fun b o e => Ri.sub b o (mono b o e)
  by_cases hlt : i < xs.length
  · right
    refine ⟨go hlt, fun H' => ∃ acc ei r, compL _ (xs.drop (i + 1)) ei = .ok r e6 ∧ acc ++ r = vs ∧ CpO D n ms (M1 ++ (M2 ++ M3)) os σ s1 p acc ei H', fun H' ⟨acc, ei, r, q1, q2, q3⟩ => ⟨_, ?_, rfl, by omega, acc, ei, r, q1, q2, q3⟩, fun x H' hy => ?_⟩
    · omega
    · obtain ⟨hH, pv, hpv, rpv⟩ := yl x H' hy hlt
      rw [hH]
      have hx : xs.drop i = pv :: xs.drop (i + 1) := by
        rw [List.drop_eq_getElem_cons hlt]
        congr 1
        rw [List.getElem?_eq_getElem hlt] at hpv
        exact Option.some.inj hpv
      rw [hx] at hr
      obtain ⟨o, e5, r', hfx, hrest, hr'⟩ := compL_cons hr
      have hfx : (match setTG t pv (wipeE ei os) with
        | some e3 => (evC C ifs e3).bind fun t e4 => if t then (evE C c e4).bind fun v e5 => .ok (some v) e5 else .ok none e4
        | none => .st) = Ev.R.ok o e5 := hfx
      cases q3 : setTG t pv (wipeE ei os) with
      | none => rw [q3] at hfx; cases hfx
      | some e3 =>
        rw [q3] at hfx
        obtain ⟨tt, e4, h4, h5⟩ := Ev.R.bind_ok hfx
        refine ⟨pv, wipeE ei os, G, Fp, e3, Ri, RepV.mono mono rpv, q3, fun σ' R3 hσ => ?_⟩
        have hl' : σ'.length = σ.length := by
          have a1 := R3.len
          have a2 := R1.len
          have a3 := setTG_len q3
          rw [wipeE_len] at a3
          dsimp only at a1
          omega
        have hw : wipe σ' os = wipe σ os := wipe_same hl' fun j hj => by
          rw [(hσ j (fun z => hj (htg j z))).1, wipe_get os σ j hj]
        have h3 : ∀ j, j ∉ os → getV e3 j = getV (wipeE ei os) j := fun j hj => (hσ j (fun z => hj (htg j z))).2
        have hs1 : s1.env.length = σ'.length := R1.len.trans hl'.symm
        /- the rest of the invariant behind a turn -/
        have keep : ∀ {Mb : List Nat} {e5 : Env} {H4 G4 : Hp} {Fp4 : Fps}, RelS D ms σ' ⟨e5, H4, G4, Fp4⟩ → ExtS Mb ⟨e3, H, G, Fp⟩ ⟨e5, H4, G4, Fp4⟩ → (∀ i, i ∈ Mb → i ∈ M1 ++ (M2 ++ M3)) →
            RelS D ms (wipe σ os) ⟨wipeE e5 os, H4, G4, Fp4⟩ ∧
            (∀ b o, s1.H b = some o → (∀ i, b ∉ s1.Fp i) → H4 b = some o ∧ (∀ i, b ∉ Fp4 i) ∧ (s1.G b = none → G4 b = none)) ∧
            (∀ i b o, b ∈ s1.Fp i → i ∉ M1 ++ (M2 ++ M3) → s1.H b = some o → H4 b = some o) ∧ (∀ b o, s1.G b = some o → G4 b = some o) ∧ (∀ i, i ∉ M1 ++ (M2 ++ M3) → i ∉ os → Fp4 i = s1.Fp i ∧ getV e5 i = getV s1.env i) ∧ (∀ i, i ∉ M1 ++ (M2 ++ M3) → Fp4 i = s1.Fp i) ∧ e5.length = s1.env.length := by
          intro Mb e5 H4 G4 Fp4 R' E hMb
          have w := Rel.wiped R' h0
          rw [hw] at w
          refine ⟨w, fun b o e n => ?_, fun i b o hb hm e => ?_, fun b o e => E.mono b o (mono b o e), fun i hm ho => ?_, fun i hm => ?_, ?_⟩
          · obtain ⟨a1, a2, a3⟩ := far b o e n
            obtain ⟨b1, b2, b3⟩ := E.far b o a1 a2
            exact ⟨b1, b2, fun q => b3 (a3 q)⟩
          · exact E.own i b o (by dsimp only; rw [sameF i hm]; exact hb) (fun z => hm (hMb i z)) (own i b o hb hm e)
          · obtain ⟨a1, a2⟩ := E.same i (fun z => hm (hMb i z))
            obtain ⟨b1, b2⟩ := same i hm ho
            refine ⟨a1.trans b1, a2.trans ((h3 i ho).trans ?_)⟩
            rw [getV_wipeE, if_neg ho]
            exact b2
          · exact (E.same i (fun z => hm (hMb i z))).1.trans (sameF i hm)
          · exact R'.len.trans hs1.symm
        refine ⟨hw, Rd.of_ok (s := ⟨e3, H, G, Fp⟩) R3 h4 fun b H3 G3 Fp3 R4 E4 hbt => ?_⟩
        subst hbt
        cases tt with
        | false =>
          rw [if_neg (by simp)] at h5 ⊢
          cases h5
          rw [hr'] at ha
          obtain ⟨w, k2, k3, k4, k5, k6, k7⟩ := keep R4 E4 (fun i h => memR _ (memL _ h))
          obtain ⟨hv', rv', np'⟩ := own_far (s := ⟨e3, H, G, Fp⟩) rv hv np E4
          exact ⟨acc, _, r', hrest, ha, ⟨G3, Fp3, us, Fs, w, hv', rv', np', ndp, nwp, k2, k3, k4, k5, k6, k7⟩⟩
        | true =>
          rw [if_pos rfl] at h5 ⊢
          obtain ⟨v, e5', h6, h7⟩ := Ev.R.bind_ok h5
          cases h7
          refine Rd.of_ok (s := ⟨e4, H3, G3, Fp3⟩) R4 h6 fun y H4 G4 Fp4 R5 E5 dy => ?_
          have E45 : ExtS (M2 ++ M3) ⟨e3, H, G, Fp⟩ ⟨e5, H4, G4, Fp4⟩ := Ext.trans2 E4 E5 memL memR
          obtain ⟨w, k2, k3, k4, k5, k6, k7⟩ := keep R5 E45 memR
          obtain ⟨hv3, rv3, np3⟩ := own_far (s := ⟨e3, H, G, Fp⟩) rv hv np E4
          obtain ⟨hv4, rv4, np4⟩ := own_far (s := ⟨e4, H3, G3, Fp3⟩) rv3 hv3 np3 E5
          obtain ⟨F, ty, nwy⟩ := dy
          have pF : ∀ b, b ∈ F → b ∉ p :: Fs := fun b hb hb' => by
            have hh : ∃ o, H3 b = some o := by
              rcases List.mem_cons.mp hb' with rfl | hb'
              · exact ⟨_, hv3⟩
              · obtain ⟨us, e⟩ := rv3.mem b hb'
                exact ⟨_, e⟩
            obtain ⟨o, e⟩ := hh
            exact nwy b o e (np3 b hb').2 hb
          obtain ⟨ndp1, ndp2⟩ := List.nodup_cons.mp ndp
          refine ⟨us, hv4, ?_, acc ++ [v], e5, r', hrest, ?_, ⟨G4, Fp4, us ++ [y], Fs ++ F, w.other (np4 p (by simp)).2 (np4 p (by simp)).1, upd_same, OwnRs.app (rv4.mono (fun _ _ e => e) fun b hb o e => ?_) (OwnRs.one (ty.own.mono (fun _ _ e => e) fun b hb o e => ?_)), fun b hb => ?_, ?_, fun b o e n hb => ?_, fun b o e n => ?_, fun i b o hb hm e => ?_, k4, k5, k6, k7⟩⟩
          · rw [← rv.length]
            have : vs.length ≤ 16777216 := hl
            rw [← ha, hr'] at this
            simp only [List.length_append, List.length_cons] at this
            show acc.length < 16777216
            omega
          · rw [List.append_assoc, List.singleton_append]
            rw [hr'] at ha
            exact ha
          · rw [upd_ne fun z : b = p => ndp1 (by rw [← z]; exact hb)]; exact e
          · rw [upd_ne fun z : b = p => pF b hb (by rw [z]; simp)]; exact e
          · rcases List.mem_cons.mp hb with rfl | hb
            · exact np4 _ (by simp)
            · rcases List.mem_append.mp hb with hb | hb
              · exact np4 b (List.mem_cons_of_mem _ hb)
              · exact ty.dis b hb
          · refine List.nodup_cons.mpr ⟨fun z => ?_, List.nodup_append.mpr ⟨ndp2, ty.nd, fun a ha b hb e => pF b hb (by rw [← e]; exact List.mem_cons_of_mem _ ha)⟩⟩
            rcases List.mem_append.mp z with z | z
            · exact ndp1 z
            · exact pF p z (by simp)
          · rcases List.mem_append.mp hb with hb | hb
            · exact nwp b o e n hb
            · obtain ⟨a1, a2, _⟩ := far b o e n
              obtain ⟨b1, b2, _⟩ := E4.far b o a1 a2
              exact nwy b o b1 b2 hb
          · obtain ⟨a1, a2, a3⟩ := k2 b o e n
            refine ⟨?_, a2, a3⟩
            rw [upd_ne (ne_of_none e hp)]
            exact a1
          · rw [upd_ne (ne_of_none e hp)]
            exact k3 i b o hb hm e
  · left
    have hi' : i = xs.length := by omega
    refine ⟨stp (by omega), ?_⟩
    rw [hi', List.drop_length] at hr
    cases hr
    rw [List.append_nil] at ha
    subst ha
    exact CpO.fin I0 R1 E1' h0 hp kf
theorem s_cpO (e : D.K = X.K) (hc : X.calm = true) (hnd : X.N.Nodup) {n : Nat} {it : CI} {iter elt : Expr} {eifs : List Expr} {scope : Scope} {ow : List (Str × Nat)} {os : List Nat} {t : Ev.TG} {ifs : Option CE} {d : Nat}
    (ho : ow.map (fun x => x.snd) = os) (hi : SI D X C W ms M1 it tg iter) (hb : BlkOk X.N X.env.scope scope ow)
    (hg : ∀ (s : Shared) (H : Hp) (Ca : Addr) (cl : List (Str × Addr)) (fp : List Addr), SG D (X.blk s H scope (compEnvC scope cl Ca X.env) fp) ms t tg)
    (ht : ∀ (s : Shared) (H : Hp) (Ca : Addr) (cl : List (Str × Addr)) (fp : List Addr), SC D (X.blk s H scope (compEnvC scope cl Ca X.env) fp) C WF ms M2 ifs eifs)
    (he : ∀ (s : Shared) (H : Hp) (Ca : Addr) (cl : List (Str × Addr)) (fp : List Addr), SE D (X.blk s H scope (compEnvC scope cl Ca X.env) fp) C WF ms M3 (.own n) c elt)
    (h0 : ∀ i, i ∈ os → gm ms i = 0) (htg : ∀ i, i ∈ tgs t → i ∈ os) (hf : ∀ x, foldedSetIterable iter X.env x = pure x) :
    SE D X C W ms (M1 ++ (M2 ++ M3)) (.own (n + 1)) (.cp d os t it ifs c) (.ListComp elt [⟨tg, iter, eifs, 0⟩] scope pos) := by
  subst ho
  exact PE.imp (pe_lc hc hnd hi hb hg ht he hf) fun σ H Q h => cp_readO h0 htg h
theorem ss_setLcO {i n : Nat} {nm : Str} {it : CI} {iter elt : Expr} {eifs : List Expr} {scope : Scope} {ow : List (Str × Nat)} {os : List Nat} {t : Ev.TG} {ifs : Option CE} {d : Nat} (hc : X.calm = true) (hnd : X.N.Nodup) (hN : X.N[i]? = some nm) (hl : X.env.scope.names.lookup nm = some .local) (hi : i < ms.length) (hP : i ∉ P) (hB : dmOk ms B = true)
    (hsw : swapsWith (.ListComp elt [⟨tg, iter, eifs, 0⟩] scope pos) (some (.Name nm p1)) p2.line X.env = pure true)
    (ho : ow.map (fun x => x.snd) = os) (hit : SI D X C W ms M1 it tg iter) (hb : BlkOk X.N X.env.scope scope ow)
    (hg : ∀ (s : Shared) (H : Hp) (Ca : Addr) (cl : List (Str × Addr)) (fp : List Addr), SG D (X.blk s H scope (compEnvC scope cl Ca X.env) fp) ms t tg)
    (ht : ∀ (s : Shared) (H : Hp) (Ca : Addr) (cl : List (Str × Addr)) (fp : List Addr), SC D (X.blk s H scope (compEnvC scope cl Ca X.env) fp) C WF ms M2 ifs eifs)
    (he : ∀ (s : Shared) (H : Hp) (Ca : Addr) (cl : List (Str × Addr)) (fp : List Addr), SE D (X.blk s H scope (compEnvC scope cl Ca X.env) fp) C WF ms M3 (.own n) c elt)
    (h0 : ∀ i, i ∈ os → gm ms i = 0) (htg : ∀ i, i ∈ tgs t → i ∈ os) (hf : ∀ x, foldedSetIterable iter X.env x = pure x) :
    SS D X C W B L rm P ms (ms.set i (n + 1)) (.set i (.cp d os t it ifs c)) (.Assign [.Name nm p1] (.ListComp elt [⟨tg, iter, eifs, 0⟩] scope pos) p2) := by
  subst ho
  exact PS.imp (ps_setLc hc hnd hN hl hsw hit hb hg ht he hf) fun Dn σ H h => tAsg_name (M := M1 ++ (M2 ++ M3)) hi hP hB (fun Q q => cp_readO h0 htg q) h
end
end Ev

/-! Ev21: plain helpers. -/
namespace Ev
open Pre
section
variable {C : Calls} {env e2 : Env} {a b c : CE} {i : Nat}
theorem out_rt {v : PV} : outF0 (.rt v env) = .ok v [] := rfl
theorem out_nx : outF0 (.nx env) = .ok .non [] := rfl
theorem out_ex {k : Nat} : outF0 (.ex k env) = .ex k [] := rfl
/-- a def with one in-out parameter, the first -/
def outF1 (j : Nat) : O → CR
  | .nx e => match getV e j with
    | some x => .ok .non [x]
    | none => .st
  | .rt v e => match getV e j with
    | some x => .ok v [x]
    | none => .st
  | .ex c e => match getV e j with
    | some x => .ex c [x]
    | none => .st
  | _ => .st
theorem out1_rt {v : PV} {j : Nat} : outF1 j (.rt v env) = (match getV env j with
    | some x => .ok v [x]
    | none => .st) := rfl
theorem out1_nx {j : Nat} : outF1 j (.nx env) = (match getV env j with
    | some x => .ok .non [x]
    | none => .st) := rfl
theorem out1_ex {j k : Nat} : outF1 j (.ex k env) = (match getV env j with
    | some x => .ex k [x]
    | none => .st) := rfl
theorem runF1 {np ns rm j : Nat} {ms : List Nat} {body : List CS} {vs : List PV} (h : vs.length = np) : runF ⟨np, ns, ms, [j], rm, body⟩ C vs = outF1 j (exSs C body (vs.map some ++ List.replicate (ns - np) none)) := by
  unfold runF
  rw [if_pos h]
  dsimp only
  cases exSs C body (vs.map some ++ List.replicate (ns - np) none) with
  | nx e => show (match fins e [j] with | some fs => CR.ok .non fs | none => .st) = _; simp only [fins_cons, fins_nil]; cases q : getV e j <;> simp only [outF1, q]
  | rt v e => show (match fins e [j] with | some fs => CR.ok v fs | none => .st) = _; simp only [fins_cons, fins_nil]; cases q : getV e j <;> simp only [outF1, q]
  | ex c e => show (match fins e [j] with | some fs => CR.ex c fs | none => .st) = _; simp only [fins_cons, fins_nil]; cases q : getV e j <;> simp only [outF1, q]
  | _ => rfl
theorem ex_nx {e : Env} {P : Env → Prop} : (∃ x, O.nx e = O.nx x ∧ P x) = P e := propext ⟨fun ⟨x, h, p⟩ => by cases h; exact p, fun h => ⟨e, rfl, h⟩⟩
theorem e_mv : evE C (.mv i) env = (match getV env i with
    | some v => .ok v (env.set i none)
    | none => .st) := rfl
theorem x_ext {i : Nat} : exS C (.ext i a) env = (match getV env i with
    | some (.lst _) => (evE C a env).then fun v e1 => onSlot i (extV v) e1
    | _ => .st) := rfl
theorem an_bl {x y : Bool} (ha : evE C a env = .ok (.bl x) env) (hb : x = true → evE C b env = .ok (.bl y) env) : evE C (.an a b) env = .ok (.bl (x && y)) env := by
  rw [e_an, ha]
  cases x with
  | true => simp only [R.bind_ok', truth_bl, hb rfl, Bool.true_and]
  | false => rfl
theorem or_bl {x y : Bool} (ha : evE C a env = .ok (.bl x) env) (hb : x = false → evE C b env = .ok (.bl y) env) : evE C (.or a b) env = .ok (.bl (x || y)) env := by
  rw [e_or, ha]
  cases x with
  | false => simp only [R.bind_ok', truth_bl, hb rfl, Bool.false_or]
  | true => rfl
theorem chn_le {a b x : Int} {e : CE} (h : evE C e env = .ok (.int x) env) : evE C (.chn .le .le (.int a) e (.int b)) env = .ok (.bl (decide (a ≤ x) && decide (x ≤ b))) env := by
  rw [e_chn, e_int]
  simp only [R.bind_ok', h, cop_le]
  by_cases q : a ≤ x
  · simp [q]
  · simp [q]
theorem m_true {α : Type} {x y z : α} : (match (some true : Option Bool) with | some true => x | some false => y | none => z) = x := rfl
theorem m_false {α : Type} {x y z : α} : (match (some false : Option Bool) with | some true => x | some false => y | none => z) = y := rfl
theorem ext_at {v z : PV} {x : List PV} {e : CE} (hi : getV env i = some (.lst x)) (hi2 : getV e2 i = some (.lst x)) (h : evE C e env = .ok v e2) (hl : extV v (.lst x) = some z) : exS C (.ext i e) env = .nx (e2.set i (some z)) := by
  show (match getV env i with
    | some (.lst _) => (evE C e env).then fun v e1 => onSlot i (extV v) e1
    | _ => .st) = _
  rw [hi]
  simp [h, hi2, hl]
theorem app_at2 {e : CE} {v : PV} {x : List PV} (hi : getV env i = some (.lst x)) (hi2 : getV e2 i = some (.lst x)) (h : evE C e env = .ok v e2) (hl : x.length < SZ) : exS C (.app i [] e) env = .nx (e2.set i (some (.lst (x ++ [v])))) := by
  simp [hi, hi2, h, app_ok hl]
theorem whl_rt {s : List CS} {n : Nat} {e e2 : Env} {v : PV} (h : tst (evE C c e) = .ok true e) (h2 : exSs C s e = .rt v e2) : whlF C c s (n + 1) e = .rt v e2 := by
  unfold whlF
  rw [whileN, show evT C c e = _ from h]
  dsimp only
  rw [h2]
theorem whl_ex {s : List CS} {n k : Nat} {e e2 : Env} (h : tst (evE C c e) = .ok true e) (h2 : exSs C s e = .ex k e2) : whlF C c s (n + 1) e = .ex k e2 := by
  unfold whlF
  rw [whileN, show evT C c e = _ from h]
  dsimp only
  rw [h2]
end
theorem rep_flat {α : Type} (v : α) : ∀ n : Nat, (List.replicate n [v]).flatten = List.replicate n v
  | 0 => rfl
  | n + 1 => by rw [List.replicate_succ, List.flatten_cons, rep_flat v n, List.replicate_succ]; rfl
theorem mul_lst (x : PV) (k : Nat) (h : k ≤ 16777216) : bop .mul (.lst [x]) (.int k) = some (.lst (List.replicate k x)) := by
  show grd (small (k : Int) ∧ -(2 ^ 63) ≤ (k : Int) ∧ (k : Int) < 2 ^ 63 ∧ [x].length * (k : Int).toNat ≤ SZ) (PV.lst (List.replicate (k : Int).toNat [x]).flatten) = _
  rw [grd_pos ⟨small_of (by omega) (by omega), by omega, by omega, by show 1 * k ≤ 16777216; omega⟩, Int.toNat_natCast, rep_flat]
theorem mul_str (x : Nat) (k : Nat) (h : k ≤ 16777216) : bop .mul (.str [x]) (.int k) = some (.str (List.replicate k x)) := by
  show grd (0 ≤ (k : Int) ∧ (k : Int) < 2 ^ 63 ∧ [x].length * (k : Int).toNat ≤ SZ) (PV.str (List.replicate (k : Int).toNat [x]).flatten) = _
  rw [grd_pos ⟨by omega, by omega, by show 1 * k ≤ 16777216; omega⟩, Int.toNat_natCast, rep_flat]
theorem ilS (l : List Int) (x : Int) : PV.lst (l.map .int ++ [.int x]) = iL (l ++ [x]) := by
  show _ = PV.lst ((l ++ [x]).map .int)
  rw [List.map_append]
  rfl
theorem drop_cons {t : List Int} {k : Nat} (h : k < t.length) : t.drop k = t.getD k 0 :: t.drop (k + 1) := by
  rw [List.drop_eq_getElem_cons h, List.getD_eq_getElem?_getD, List.getElem?_eq_getElem h]
  rfl
theorem rcount_dn (n : Nat) : rcount ((n : Int) - 1) (-1) (-1) = n := by
  unfold rcount
  rw [if_neg (by decide)]
  by_cases h : n = 0
  · subst h; rfl
  · rw [if_pos (by omega), show -(-1 : Int) = 1 from rfl, Int.ediv_one]
    omega
theorem forL_dn {f : PV → Env → O} (mk : Nat → Env → Prop) : ∀ (n : Nat) (env : Env), (∀ k env, k < n → mk (k + 1) env → ∃ e, f (.int (k : Nat)) env = .nx e ∧ mk k e) → mk n env → ∃ e, forL f (rangeI ((n : Int) - 1) (-1) n) env = .nx e ∧ mk 0 e
  | 0, env, _, h => ⟨env, rfl, h⟩
  | n + 1, env, st, h => by
    obtain ⟨e1, a1, a2⟩ := st n env (by omega) h
    obtain ⟨e2, b1, b2⟩ := forL_dn mk n e1 (fun k env hk => st k env (by omega)) a2
    refine ⟨e2, ?_, b2⟩
    rw [rangeI, forL, show ((n + 1 : Nat) : Int) - 1 = (n : Int) by omega, a1, show (n : Int) + -1 = (n : Int) - 1 by omega]
    exact b1
theorem pix_nat {l : List Int} {k : Nat} (h : k < l.length) : pix (l.map PV.int) (k : Int) = some (.int (l.getD k 0)) := by
  have := pix_int (l := l) (k := (k : Int)) (by omega) (by omega)
  rw [Int.toNat_natCast] at this
  exact this
theorem app_int {l : List Int} (h : l.length < 16777216) (x : Int) : appV (.int x) (.lst (l.map .int)) = some (.lst ((l ++ [x]).map .int)) := by
  rw [app_ok (by rw [List.length_map]; exact h), List.map_append]
  rfl
theorem pix_0 {α : Type} {a : α} {r : List α} : pix (a :: r) 0 = some a := rfl
theorem pix_1 {α : Type} {a b : α} {r : List α} : pix (a :: b :: r) 1 = some b := rfl
theorem pix_2 {α : Type} {a b c : α} {r : List α} : pix (a :: b :: c :: r) 2 = some c := rfl
theorem pix_3 {α : Type} {a b c d : α} {r : List α} : pix (a :: b :: c :: d :: r) 3 = some d := rfl
/-! ### numbers among anything -/
def numB (lo hi : Int) : PV → Bool
  | .int x => decide (lo ≤ x) && decide (x ≤ hi)
  | _ => false
theorem num_any (C : Calls) {v : PV} (hv : hasKind v = true) (lo hi : Int) : runF ⟨3, 3, [], [], 0, is_num⟩ C [v, .int lo, .int hi] = .ok (.bl (numB lo hi v)) [] := by
  cases v with
  | non => exact num_n C _ _
  | bl b => exact num_b C _ _ _
  | int x => exact num_i C x lo hi
  | str s => exact num_s C _ _ _
  | lst xs => exact num_l C _ _ _
  | tup xs => exact num_t C _ _ _
  | _ => cases hv
def NumAt (C : Calls) (f : Nat) : Prop := ∀ v lo hi, hasKind v = true → C f [v, .int lo, .int hi] = .ok (.bl (numB lo hi v)) []
theorem chk_any {C : Calls} {f : Nat} (hN : NumAt C f) {vs : List PV} {lo hi : Int} (h : ∀ v, v ∈ vs → hasKind v = true) (hl : vs.length ≤ SZ) {env : Env} {k j dd : Nat} (hk : k < env.length) (hj : getV env j = some (.lst vs)) {lo' hi' : CE} (hlo : ∀ env, evA C [lo'] env = .ok [.v (.int lo)] env) (hhi : ∀ env, evA C [hi'] env = .ok [.v (.int hi)] env) (hlo2 : ∀ env r, evA C (lo' :: r) env = (evA C r env).bind fun vs e => .ok (.v (.int lo) :: vs) e) :
    evE C (.cp dd [k] (.nm k) (.of 0 (.var j)) (some (.nt (.call f [.var k, lo', hi']))) (.var k)) env = .ok (.lst (vs.filter fun v => !numB lo hi v)) env := by
  have h1 := cp_sift (C := C) (dd := dd) (k := k) (it := .of 0 (.var j)) (c := .nt (.call f [.var k, lo', hi'])) (e := .var k) (env := env) (env1 := env) (xs := vs) (fun v => !numB lo hi v) (fun x => x) hk (by simp [hj]) (fun x hx => by
    rw [e_nt, e_call, ea_var, e_var, getV_set_eq hk, R.of_some, R.bind_ok', hlo2, hhi]
    simp [hN x lo hi (h x hx)]) (fun x hx hp => by rw [e_var, getV_set_eq hk]; rfl) (by simpa using hl)
  rw [h1]
  simp
theorem filt_nil {vs : List PV} {p : PV → Bool} : (vs.filter fun v => !p v).isEmpty = vs.all p := by
  induction vs with
  | nil => rfl
  | cons v vs ih =>
    rw [List.filter_cons, List.all_cons]
    cases p v with
    | true => simpa using ih
    | false => rfl
theorem deps_filter {p : PV → Bool} {n : Nat} : ∀ {vs : List PV}, PV.deps vs ≤ n → PV.deps (vs.filter p) ≤ n
  | [], h => h
  | v :: vs, h => by
    have h : Nat.max v.dep (PV.deps vs) ≤ n := h
    have h1 : v.dep ≤ n := Nat.le_trans (Nat.le_max_left _ _) h
    have h2 := deps_filter (p := p) (vs := vs) (Nat.le_trans (Nat.le_max_right _ _) h)
    rw [List.filter_cons]
    split
    · exact Nat.max_le.mpr ⟨h1, h2⟩
    · exact h2
theorem eq_nil {xs : List PV} (h : PV.deps xs ≤ 59) : cop .eq (.lst xs) (.lst []) = some xs.isEmpty := by
  rw [cop_eq]
  unfold eqD
  rw [if_pos ⟨by show PV.deps xs + 1 ≤ 60; omega, by show 0 + 1 ≤ 60; omega⟩]
  cases xs <;> rfl
theorem all_num {lo hi : Int} {l : List Int} : (l.map PV.int).all (numB lo hi) = l.all fun x => decide (lo ≤ x) && decide (x ≤ hi) := by
  induction l with
  | nil => rfl
  | cons x l ih => simp only [List.map_cons, List.all_cons, ih]; rfl
theorem all_num_t {lo hi : Int} {l : List Int} (h : ∀ x, x ∈ l → lo ≤ x ∧ x ≤ hi) : (l.map PV.int).all (numB lo hi) = true := by
  rw [all_num, List.all_eq_true]
  intro x hx
  simp [h x hx]
theorem kind_ints {l : List Int} : ∀ v, v ∈ l.map PV.int → hasKind v = true := fun v hv => by
  obtain ⟨i, _, rfl⟩ := List.mem_map.mp hv
  rfl
/-! ### comprehensions, item by item -/
theorem compL_rel {f : PV → Env → R (Option PV)} (I : Env → Prop) (Pr : PV → PV → Prop) : ∀ (xs : List PV) (env : Env), I env → (∀ x env, x ∈ xs → I env → ∃ v e, f x env = .ok (some v) e ∧ Pr x v ∧ I e) →
    ∃ vs e, compL f xs env = .ok vs e ∧ I e ∧ vs.length = xs.length ∧ ∀ (i : Nat) x, xs[i]? = some x → ∃ v, vs[i]? = some v ∧ Pr x v
  | [], env, h, _ => ⟨[], env, rfl, h, rfl, fun i x h => by simp at h⟩
  | x :: xs, env, h, st => by
    obtain ⟨v, e, h1, h2, h3⟩ := st x env (List.mem_cons_self ..) h
    obtain ⟨vs, e2, h4, h5, h6, h7⟩ := compL_rel I Pr xs e h3 fun x env hx => st x env (List.mem_cons_of_mem _ hx)
    refine ⟨v :: vs, e2, by rw [compL, h1]; simp only [R.bind_ok']; rw [h4]; rfl, h5, by simp [h6], fun i y hy => ?_⟩
    cases i with
    | zero =>
      have : x = y := by simpa using hy
      subst this
      exact ⟨v, rfl, h2⟩
    | succ i => exact h7 i y (by simpa using hy)
/-- one over pairs that draws -/
theorem cp_drawT2 {C : Calls} {dd a b sl : Nat} {it : CI} {e : CE} {env env1 : Env} {xs : List PV} {d0 : PV} (P : PV → PV → Prop) (ha : a < env1.length) (hb : b < env1.length) (hab : a ≠ b) (has : a ≠ sl) (hbs : b ≠ sl) (hd : env1[sl]? = some (some d0)) (D0 : Draws d0) (h : evI C it env = .ok xs env1)
    (st : ∀ x d, x ∈ xs → Draws d → ∃ u v w d', x = .tup [u, v] ∧ evE C e (((env1.set a (some u)).set b (some v)).set sl (some d)) = .ok w (((env1.set a (some u)).set b (some v)).set sl (some d')) ∧ P x w ∧ Draws d') (hl : xs.length ≤ SZ) :
    ∃ vs d', evE C (.cp dd [a, b] (.tp [a, b]) it none e) env = .ok (.lst vs) (env1.set sl (some d')) ∧ Draws d' ∧ vs.length = xs.length ∧ ∀ (i : Nat) x, xs[i]? = some x → ∃ v, vs[i]? = some v ∧ P x v := by
  obtain ⟨h1l, h1e⟩ := List.getElem?_eq_some_iff.mp hd
  have start : env1 = (((env1.set a env1[a]).set b env1[b]).set sl (some d0)) := by
    rw [List.set_getElem_self ha, List.set_getElem_self hb, ← h1e, List.set_getElem_self h1l]
  obtain ⟨vs, e6, h1, ⟨oa, ob, d', rfl, D'⟩, hlen, hP⟩ := compL_rel (f := compF C [a, b] (.tp [a, b]) none e) (fun env => ∃ oa ob d, env = ((env1.set a oa).set b ob).set sl (some d) ∧ Draws d) P xs env1 ⟨_, _, _, start, D0⟩ fun x env hx ⟨oa, ob, d, he, D⟩ => by
    subst he
    obtain ⟨u, v, w, d', rfl, q1, q2, q3⟩ := st x d hx D
    refine ⟨w, _, ?_, q2, some u, some v, d', rfl, q3⟩
    have e3 : setTG (.tp [a, b]) (.tup [u, v]) (wipeE (((env1.set a oa).set b ob).set sl (some d)) [a, b]) = some (((env1.set a (some u)).set b (some v)).set sl (some d)) := by
      show some ((((((((env1.set a oa).set b ob).set sl (some d)).set b none).set a none).set a (some u)).set b (some v))) = _
      congr 1
      apply List.ext_getElem?
      intro i
      simp only [List.getElem?_set, List.length_set]
      by_cases i3 : sl = i
      · subst i3
        simp [has, hbs]
      · by_cases i2 : b = i
        · subst i2
          simp [i3, hab]
        · by_cases i1 : a = i
          · subst i1
            simp [i3, i2]
          · simp [i1, i2, i3]
    unfold compF
    rw [e3]
    dsimp only
    rw [ec_none, R.bind_ok', if_pos rfl, q1]
    rfl
  refine ⟨vs, d', ?_, D', hlen, hP⟩
  rw [cp_ok h h1 (by omega)]
  congr 1
  show ((((((env1.set a oa).set b ob).set sl (some d')).set b (match env1[b]? with | some o => o | none => none)).set a (match env1[a]? with | some o => o | none => none))) = _
  rw [List.getElem?_eq_getElem ha, List.getElem?_eq_getElem hb]
  dsimp only
  apply List.ext_getElem?
  intro i
  simp only [List.getElem?_set, List.length_set]
  by_cases i3 : sl = i
  · subst i3
    simp [has, hbs]
  · by_cases i1 : a = i
    · subst i1
      simp [i3, ha, Ne.symm hab]
    · by_cases i2 : b = i
      · subst i2
        simp [i3, i1, hb]
      · simp [i1, i2, i3]
/-- a loop whose turns leave nothing but their item -/
theorem forL_each {f : PV → Env → O} (E : Option PV → Env) : ∀ (xs : List PV) (o : Option PV), (∀ x o, x ∈ xs → f x (E o) = .nx (E (some x))) → ∃ o', forL f xs (E o) = .nx (E o')
  | [], o, _ => ⟨o, rfl⟩
  | x :: xs, o, h => by
    obtain ⟨o', g⟩ := forL_each E xs (some x) fun y o hy => h y o (List.mem_cons_of_mem _ hy)
    exact ⟨o', by rw [forL, h x o (List.mem_cons_self ..)]; exact g⟩
def toIs : PV → List Int
  | .lst xs => match getIs xs with
    | some l => l
    | none => []
  | _ => []
theorem toIs_il (l : List Int) : toIs (iL l) = l := by
  show (match getIs (l.map .int) with | some l => l | none => []) = l
  rw [getIs_map]
theorem rows_of {vs : List PV} (h : ∀ (i : Nat) v, vs[i]? = some v → ∃ l : List Int, v = iL l) : vs = (vs.map toIs).map iL := by
  rw [List.map_map]
  apply List.ext_getElem?
  intro i
  rw [List.getElem?_map]
  cases q : vs[i]? with
  | none => rfl
  | some v =>
    obtain ⟨l, rfl⟩ := h i v q
    show some (iL l) = some (iL (toIs (iL l)))
    rw [toIs_il]
theorem addl_ok {x y : List PV} (h : x.length + y.length ≤ SZ) : bop .add (.lst x) (.lst y) = some (.lst (x ++ y)) := grd_pos h
theorem cop_ninni (i : Int) (l : List Int) : cop .nin (.int i) (.lst (l.map .int)) = some (!decide (i ∈ l)) := by
  show (if (PV.int i).dep ≤ 59 ∧ PV.deps (l.map .int) ≤ 59 then some (!(l.map PV.int).any fun y => PV.eqv y (.int i)) else none) = _
  rw [if_pos ⟨Nat.zero_le _, by rw [deps_int]; decide⟩, any_int]
/-- places of a range that pass a test -/
theorem cp_rngB {C : Calls} {dd k : Nat} {c : CE} {env : Env} (n : Nat) (p : Nat → Bool) (hk : k < env.length) (sp : ∀ i : Nat, i < n → tst (evE C c (env.set k (some (.int i)))) = .ok (p i) (env.set k (some (.int i)))) (hn : n ≤ 1000000000) (hs : n ≤ SZ) {a : CE} (ha : evE C a env = .ok (.int (n : Nat)) env) : evE C (.cp dd [k] (.nm k) (.r1 a) (some c) (.var k)) env = .ok (.lst (((List.range n).filter p).map fun i => .int (i : Nat))) env := by
  rw [cp_sift (xs := rangeI 0 1 n) (env1 := env) (fun x => match x with | .int i => p i.toNat | _ => false) (fun x => x) hk (ei_r1_ok (n := n) ha (inR_of (by omega) (by omega))) (fun x hx => by
    obtain ⟨i, rfl, i0, i1⟩ := rangeI_mem hx
    obtain ⟨j, rfl⟩ : ∃ j : Nat, i = (j : Int) := ⟨i.toNat, by omega⟩
    have := sp j (by omega)
    show _ = R.ok (p ((j : Nat) : Int).toNat) _
    rw [Int.toNat_natCast]
    exact this) (fun x hx hp => by rw [e_var, getV_set_eq hk]; rfl) (by rw [rangeI_length]; exact hs)]
  congr 2
  rw [rangeI_eq0, List.map_id', List.filter_map]
  rfl
/-- each place of a range gives a value -/
theorem cp_rngM {C : Calls} {dd k : Nat} {e : CE} {env : Env} (n : Nat) (g : Nat → PV) (hk : k < env.length) (sp : ∀ i : Nat, i < n → evE C e (env.set k (some (.int i))) = .ok (g i) (env.set k (some (.int i)))) (hn : n ≤ 1000000000) (hs : n ≤ SZ) {a : CE} (ha : evE C a env = .ok (.int (n : Nat)) env) : evE C (.cp dd [k] (.nm k) (.r1 a) none e) env = .ok (.lst ((List.range n).map g)) env := by
  rw [cp_map (xs := rangeI 0 1 n) (env1 := env) (fun x => match x with | .int i => g i.toNat | _ => .non) hk (ei_r1_ok (n := n) ha (inR_of (by omega) (by omega))) (fun x hx => by
    obtain ⟨i, rfl, i0, i1⟩ := rangeI_mem hx
    obtain ⟨j, rfl⟩ : ∃ j : Nat, i = (j : Int) := ⟨i.toNat, by omega⟩
    have := sp j (by omega)
    show _ = R.ok (g ((j : Nat) : Int).toNat) _
    rw [Int.toNat_natCast]
    exact this) (by rw [rangeI_length]; exact hs)]
  congr 2
  rw [rangeI_eq0, List.map_map]
  rfl
/-- a loop that is left with v at the first item that fails a test -/
theorem forL_test {f : PV → Env → O} (I : Env → Prop) (v : PV) (p : PV → Bool) : ∀ (xs : List PV) (env : Env), I env → (∀ x env, x ∈ xs → I env → (p x = true → ∃ e, f x env = .nx e ∧ I e) ∧ (p x = false → ∃ e, f x env = .rt v e)) →
    (xs.all p = true → ∃ e, forL f xs env = .nx e ∧ I e) ∧ (xs.all p = false → ∃ e, forL f xs env = .rt v e)
  | [], env, h, _ => ⟨fun _ => ⟨env, rfl, h⟩, fun h => by simp at h⟩
  | x :: xs, env, h, st => by
    rw [List.all_cons]
    obtain ⟨s1, s2⟩ := st x env (List.mem_cons_self ..) h
    cases q : p x with
    | true =>
      obtain ⟨e, h1, h2⟩ := s1 q
      rw [Bool.true_and, forL, h1]
      exact forL_test I v p xs e h2 fun y env hy => st y env (List.mem_cons_of_mem _ hy)
    | false =>
      obtain ⟨e, h1⟩ := s2 q
      rw [Bool.false_and, forL, h1]
      exact ⟨fun h => absurd h (by simp), fun _ => ⟨e, rfl⟩⟩
/-- a loop that is left at the first item that passes a test -/
theorem forL_find {f : PV → Env → O} (I : Env → Prop) (p : PV → Bool) (g : PV → PV) : ∀ (xs : List PV) (env : Env), I env → (∀ x env, x ∈ xs → I env → (p x = false → ∃ e, f x env = .nx e ∧ I e) ∧ (p x = true → ∃ e, f x env = .rt (g x) e)) →
    (xs.find? p = none → ∃ e, forL f xs env = .nx e ∧ I e) ∧ (∀ x, xs.find? p = some x → ∃ e, forL f xs env = .rt (g x) e)
  | [], env, h, _ => ⟨fun _ => ⟨env, rfl, h⟩, fun x h => by simp at h⟩
  | x :: xs, env, h, st => by
    obtain ⟨s1, s2⟩ := st x env (List.mem_cons_self ..) h
    cases q : p x with
    | false =>
      obtain ⟨e, h1, h2⟩ := s1 q
      rw [List.find?_cons_of_neg (by simp [q]), forL, h1]
      exact forL_find I p g xs e h2 fun y env hy => st y env (List.mem_cons_of_mem _ hy)
    | true =>
      obtain ⟨e, h1⟩ := s2 q
      rw [List.find?_cons_of_pos q, forL, h1]
      exact ⟨fun h => (nomatch h), fun y hy => by cases hy; exact ⟨e, rfl⟩⟩
theorem all_rng {p : PV → Bool} {n : Nat} : (rangeI 0 1 n).all p = (List.range n).all fun i => p (.int (i : Nat)) := by
  rw [rangeI_eq0, List.all_map]
  rfl
theorem find_rng {p : PV → Bool} {n : Nat} : (rangeI 0 1 n).find? p = ((List.range n).find? fun i => p (.int (i : Nat))).map fun i => .int (i : Nat) := by
  rw [rangeI_eq0, List.find?_map]
  rfl
theorem len_eq0 {α : Type} (xs : List α) : ((xs.length : Int) == 0) = xs.isEmpty := by cases xs <;> rfl
theorem len_gt0 {α : Type} (xs : List α) : decide ((0 : Int) < (xs.length : Int)) = !xs.isEmpty := by
  cases xs with
  | nil => rfl
  | cons x xs =>
    simp only [List.isEmpty_cons, Bool.not_false, decide_eq_true_eq, List.length_cons]
    omega
theorem chk_sift {C : Calls} {f : Nat} {q : PV → Bool} {vs : List PV} (h : ∀ v, v ∈ vs → C f [v] = .ok (.bl (q v)) []) (hl : vs.length ≤ SZ) {env : Env} {k j dd : Nat} (hk : k < env.length) (hj : getV env j = some (.lst vs)) :
    evE C (.cp dd [k] (.nm k) (.of 0 (.var j)) (some (.nt (.call f [.var k]))) (.var k)) env = .ok (.lst (vs.filter fun v => !q v)) env := by
  have h1 := cp_sift (C := C) (dd := dd) (k := k) (it := .of 0 (.var j)) (c := .nt (.call f [.var k])) (e := .var k) (env := env) (env1 := env) (xs := vs) (fun v => !q v) (fun x => x) hk (by simp [hj]) (fun x hx => by
    simp [getV_set_eq hk, h x hx]) (fun x hx hp => by rw [e_var, getV_set_eq hk]; rfl) (by simpa using hl)
  rw [h1]
  simp
theorem e_eqI {C : Calls} {env : Env} {a b : CE} {x y : Int} (h1 : evE C a env = .ok (.int x) env) (h2 : evE C b env = .ok (.int y) env) : evE C (.cmp .eq a b) env = .ok (.bl (decide (x = y))) env := by
  have : (x == y) = decide (x = y) := rfl
  simp only [e_cmp, h1, h2, R.bind_ok', cop_eqi, Option.map_some, R.of_some, this]
theorem e_neI {C : Calls} {env : Env} {a b : CE} {x y : Int} (h1 : evE C a env = .ok (.int x) env) (h2 : evE C b env = .ok (.int y) env) : evE C (.cmp .ne a b) env = .ok (.bl (!decide (x = y))) env := by
  have : (x == y) = decide (x = y) := rfl
  simp only [e_cmp, h1, h2, R.bind_ok', cop_nei, Option.map_some, R.of_some, this]
theorem t_eq {C : Calls} {env : Env} {a b : CE} {x y : Int} (h1 : evE C a env = .ok (.int x) env) (h2 : evE C b env = .ok (.int y) env) : tst (evE C (.cmp .eq a b) env) = .ok (decide (x = y)) env := by
  rw [e_eqI h1 h2]; rfl
theorem t_ne {C : Calls} {env : Env} {a b : CE} {x y : Int} (h1 : evE C a env = .ok (.int x) env) (h2 : evE C b env = .ok (.int y) env) : tst (evE C (.cmp .ne a b) env) = .ok (!decide (x = y)) env := by
  rw [e_neI h1 h2]; rfl
theorem deps_nats (l : List Nat) : PV.deps (l.map fun i => PV.int (i : Nat)) = 0 := by
  have := deps_int (l.map fun i => ((i : Nat) : Int))
  rw [List.map_map] at this
  exact this
theorem deps_le {n : Nat} : ∀ {xs : List PV}, (∀ x, x ∈ xs → x.dep ≤ n) → PV.deps xs ≤ n
  | [], _ => Nat.zero_le _
  | x :: xs, h => Nat.max_le.mpr ⟨h x (List.mem_cons_self ..), deps_le fun y hy => h y (List.mem_cons_of_mem _ hy)⟩
theorem filt_all {n : Nat} {p : Nat → Bool} : (((List.range n).filter fun i => !p i).map fun i => PV.int (i : Nat)).isEmpty = (List.range n).all p := by
  generalize List.range n = l
  induction l with
  | nil => rfl
  | cons x l ih =>
    rw [List.filter_cons, List.all_cons]
    cases p x with
    | true => simpa using ih
    | false => rfl
theorem filt_any {n : Nat} {p : Nat → Bool} : (((List.range n).filter p).map fun i => PV.int (i : Nat)).isEmpty = !(List.range n).any p := by
  generalize List.range n = l
  induction l with
  | nil => rfl
  | cons x l ih =>
    rw [List.filter_cons, List.any_cons]
    cases p x with
    | true => rfl
    | false => simpa using ih
theorem e_m0 {C : Calls} {env : Env} {q : M0} {a : CE} : evE C (.m0 q a) env = (evE C a env).bind fun x e1 => R.of (m0 q x) e1 := rfl
theorem e_dsel {C : Calls} {env : Env} {q : List (List Nat × Int)} {a : CE} : evE C (.dsel q a) env = (evE C a env).bind fun x e1 => R.of (dselV q x) e1 := rfl
theorem e_stp {C : Calls} {env : Env} {a : CE} {k : Option CE} : evE C (.stp a k) env = (evE C a env).bind fun x e1 => (evO C k e1).bind fun o e2 => R.of (stpV x o) e2 := rfl
theorem e_srt {C : Calls} {env : Env} {a : CE} : evE C (.srt a) env = (evE C a env).bind fun x e1 => R.of (srtV x) e1 := rfl
theorem e_fnd {C : Calls} {env : Env} {a b : CE} {c : Option CE} {s : List Nat} {e1 : Env} (h : evE C a env = .ok (.str s) e1) : evE C (.fnd a b c) env = (evE C b e1).bind fun y e2 => (evO C c e2).bind fun o e3 => R.of (fndV (.str s) y o) e3 := by
  show (evE C a env).bind _ = _
  rw [h]
  rfl
/-- two generators, nothing changes but the two names -/
def cp2I (C : Calls) (tg1 : TG) (ifs1 : Option CE) (e : CE) (y : PV) (e6 : Env) : R (Option PV) := match setTG tg1 y (wipeE e6 (tgs tg1)) with
  | some e7 => (evC C ifs1 e7).bind fun t1 e8 => if t1 then (evE C e e8).bind fun v e9 => .ok (some v) e9 else .ok none e8
  | none => .st
def cp2O (C : Calls) (own : List Nat) (tg : TG) (ifs : Option CE) (tg1 : TG) (it1 : CI) (ifs1 : Option CE) (e : CE) (x : PV) (e2 : Env) : R (List PV) := match setTG tg x (wipeE e2 own) with
  | some e3 => (evC C ifs e3).bind fun t e4 => if t then (evI C it1 e4).bind fun ys e5 => compL (cp2I C tg1 ifs1 e) ys e5 else .ok [] e4
  | none => .st
theorem e_cp2 {C : Calls} {env : Env} {d : Nat} {own : List Nat} {tg tg1 : TG} {it it1 : CI} {ifs ifs1 : Option CE} {c : CE} : evE C (.cp2 d own tg it ifs tg1 it1 ifs1 c) env = (evI C it env).bind fun xs e1 => (noX (compL2 (cp2O C own tg ifs tg1 it1 ifs1 c) xs e1)).bind fun vs e6 => if vs.length ≤ SZ then .ok (.lst vs) (backE e1 e6 own) else .st := rfl
theorem cp2_in {C : Calls} {b : Nat} {e : CE} {E : Env} (g : PV → PV) : ∀ (ys : List PV) (o : Option PV), (∀ y, y ∈ ys → evE C e (E.set b (some y)) = .ok (g y) (E.set b (some y))) →
    ∃ o', compL (cp2I C (.nm b) none e) ys (E.set b o) = .ok (ys.map g) (E.set b o')
  | [], o, _ => ⟨o, rfl⟩
  | y :: ys, o, st => by
    obtain ⟨o', h⟩ := cp2_in g ys (some y) fun z hz => st z (List.mem_cons_of_mem _ hz)
    refine ⟨o', ?_⟩
    rw [compL]
    show R.bind ((R.bind (evE C e (((E.set b o).set b none).set b (some y))) fun v e9 => R.ok (some v) e9)) _ = _
    rw [List.set_set, List.set_set, st y (List.mem_cons_self ..)]
    show R.bind (compL _ ys (E.set b (some y))) _ = _
    rw [h]
    rfl
theorem cp2_map {C : Calls} {dd a b : Nat} {it it1 : CI} {e : CE} {env env1 : Env} {xs : List PV} (ys : PV → List PV) (g : PV → PV → PV) (ha : a < env1.length) (hb : b < env1.length) (hab : a ≠ b) (h : evI C it env = .ok xs env1)
    (h1 : ∀ x, x ∈ xs → evI C it1 ((env1.set a (some x)).set b none) = .ok (ys x) ((env1.set a (some x)).set b none))
    (st : ∀ x, x ∈ xs → ∀ y, y ∈ ys x → evE C e ((env1.set a (some x)).set b (some y)) = .ok (g x y) ((env1.set a (some x)).set b (some y))) (hl : (xs.flatMap fun x => (ys x).map (g x)).length ≤ SZ) :
    evE C (.cp2 dd [a, b] (.nm a) it none (.nm b) it1 none e) env = .ok (.lst (xs.flatMap fun x => (ys x).map (g x))) env1 := by
  have key : ∀ (l : List PV) (o o2 : Option PV), (∀ x, x ∈ l → x ∈ xs) → ∃ p p2, compL2 (cp2O C [a, b] (.nm a) none (.nm b) it1 none e) l ((env1.set a o).set b o2) = .ok (l.flatMap fun x => (ys x).map (g x)) ((env1.set a p).set b p2) := by
    intro l
    induction l with
    | nil => intro o o2 _; exact ⟨o, o2, rfl⟩
    | cons x l ih =>
      intro o o2 hm
      have hx := hm x (List.mem_cons_self ..)
      obtain ⟨q, hq⟩ := cp2_in (C := C) (b := b) (e := e) (E := env1.set a (some x)) (g x) (ys x) none (st x hx)
      obtain ⟨p, p2, hr⟩ := ih (some x) q fun z hz => hm z (List.mem_cons_of_mem _ hz)
      refine ⟨p, p2, ?_⟩
      have e0 : (((((env1.set a o).set b o2).set b none).set a none).set a (some x)) = (env1.set a (some x)).set b none := by
        rw [List.set_set, List.set_set, List.set_comm _ _ hab.symm, List.set_set]
      rw [compL2]
      show R.bind (R.bind (evI C it1 ((((((env1.set a o).set b o2).set b none).set a none).set a (some x)))) _) _ = _
      rw [e0, h1 x hx]
      show R.bind (compL _ (ys x) ((env1.set a (some x)).set b none)) _ = _
      rw [hq]
      show R.bind (compL2 _ l ((env1.set a (some x)).set b q)) _ = _
      rw [hr]
      rfl
  obtain ⟨p, p2, hk⟩ := key xs (env1[a]) (env1[b]) fun _ h => h
  rw [List.set_getElem_self ha, List.set_getElem_self hb] at hk
  rw [e_cp2, h]
  show R.bind (noX (compL2 _ xs env1)) _ = _
  rw [hk]
  show (if (xs.flatMap fun x => (ys x).map (g x)).length ≤ SZ then _ else R.st) = _
  rw [if_pos hl]
  congr 1
  show ((((env1.set a p).set b p2).set b _).set a _) = env1
  rw [List.getElem?_eq_getElem ha, List.getElem?_eq_getElem hb]
  dsimp only
  rw [List.set_set, List.set_comm _ _ hab.symm, List.set_set, List.set_getElem_self ha, List.set_getElem_self hb]
end Ev

/-! Ev22: constants of the module, texts turned round. -/
namespace Ev
open PySem PySem.Spec PyProof.Rows L2
/-! ### constants -/
mutual
def conB (K : PySem.W.Frag) : PV → Value → Bool
  | .non, u => (match u with
    | .none => true
    | _ => false)
  | .bl b, u => (match u with
    | .bool c => b == c
    | _ => false)
  | .int i, u => (match u with
    | .int j _ => decide (i = j)
    | _ => false)
  | .str s, u => (match u with
    | .str z _ => okSb s && decide (S s = z)
    | _ => false)
  | .tup xs, u => (match u with
    | .ref a => (match K.lookup a with
      | some ⟨.type c, none, .seq its _, _⟩ => decide (c = "tuple") && (decide (its.size ≤ sizeLine) && conBs K xs its.toList)
      | _ => false)
    | _ => false)
  | .lst xs, u => (match u with
    | .ref a => (match K.lookup a with
      | some ⟨.type c, none, .seq its _, sl⟩ => decide (c = "list") && (decide (sl.size = 0) && (decide (its.size ≤ sizeLine) && conBs K xs its.toList))
      | _ => false)
    | _ => false)
  | .dic _ _ _, _ => false
  | .fn _, _ => false
  | .obj _ _, _ => false
def conBs (K : PySem.W.Frag) : List PV → List Value → Bool
  | [], us => us.isEmpty
  | x :: xs, us => (match us with
    | u :: r => conB K x u && conBs K xs r
    | [] => false)
end
/- no tuple within -/
mutual
def tfB : PV → Bool
  | .lst xs => tfBs xs
  | .tup _ => false
  | .non => true
  | .bl _ => true
  | .int _ => true
  | .str _ => true
  | .dic _ _ _ => true
  | .fn _ => true
  | .obj _ _ => true
def tfBs : List PV → Bool
  | [] => true
  | x :: xs => tfB x && tfBs xs
end
theorem ba2 {a b : Bool} (h : (a && b) = true) : a = true ∧ b = true := Bool.and_eq_true_iff.mp h
mutual
theorem conB_ok {D : Dm} : ∀ {x : PV} {u : Value}, (D.kt = false ∨ tfB x = true) → conB D.K x u = true → ∃ w, RelV w u ∧ ∀ G, RepV D G x w
  | .non, u, kt, h => by
    cases u <;> first | cases h | skip
    exact ⟨.non, rfl, fun _ => rfl⟩
  | .bl b, u, kt, h => by
    cases u <;> first | (simp [conB] at h; done) | skip
    rename_i c
    have : b = c := by simpa [conB] using h
    subst this
    exact ⟨.bl b, rfl, fun _ => rfl⟩
  | .int i, u, kt, h => by
    cases u <;> first | (simp [conB] at h; done) | skip
    rename_i j t
    have : i = j := by simpa [conB] using h
    subst this
    exact ⟨.int i, ⟨_, rfl⟩, fun _ => rfl⟩
  | .str s, u, kt, h => by
    cases u <;> first | (simp [conB] at h; done) | skip
    rename_i z t
    obtain ⟨h1, h2⟩ := ba2 (show (okSb s && decide (S s = z)) = true by simpa [conB] using h)
    have := of_decide_eq_true h2
    subst this
    exact ⟨.str (S s), ⟨_, rfl⟩, fun _ => ⟨okS_b h1, rfl⟩⟩
  | .tup xs, u, kt, h => by
    cases u <;> first | (simp [conB] at h; done) | skip
    rename_i a
    have h : (match D.K.lookup a with
      | some ⟨.type c, none, .seq its _, _⟩ => decide (c = "tuple") && (decide (its.size ≤ sizeLine) && conBs D.K xs its.toList)
      | _ => false) = true := by simpa only [conB] using h
    cases q : D.K.lookup a with
    | none => rw [q] at h; cases h
    | some o =>
      obtain ⟨oc, od, dt, osl⟩ := o
      rw [q] at h
      cases oc with
      | type c =>
        cases od with
        | none =>
          cases dt with
          | seq its n =>
            obtain ⟨h1, h2⟩ := ba2 h
            obtain ⟨h3, h4⟩ := ba2 h2
            have kt0 : D.kt = false := by
              rcases kt with kt | kt
              · exact kt
              · cases kt
            obtain ⟨vs, r, rep⟩ := conBs_ok (.inl kt0) h4
            exact ⟨.ref a, rfl, fun G => ⟨a, vs, rfl, .inr ⟨kt0, .inr ⟨_, its, n, q, congrArg Value.type (of_decide_eq_true h1), rfl, of_decide_eq_true h3, r⟩⟩, rep G⟩⟩
          | _ => cases h
        | some d => cases dt <;> cases h
      | _ => cases od <;> cases dt <;> cases h
  | .lst xs, u, kt, h => by
    cases u <;> first | (simp [conB] at h; done) | skip
    rename_i a
    have h : (match D.K.lookup a with
      | some ⟨.type c, none, .seq its _, sl⟩ => decide (c = "list") && (decide (sl.size = 0) && (decide (its.size ≤ sizeLine) && conBs D.K xs its.toList))
      | _ => false) = true := by simpa only [conB] using h
    cases q : D.K.lookup a with
    | none => rw [q] at h; cases h
    | some o =>
      obtain ⟨oc, od, dt, osl⟩ := o
      rw [q] at h
      cases oc with
      | type c =>
        cases od with
        | none =>
          cases dt with
          | seq its n =>
            obtain ⟨h1, h2⟩ := ba2 h
            obtain ⟨h3, h4⟩ := ba2 h2
            obtain ⟨h5, h6⟩ := ba2 h4
            obtain ⟨vs, r, rep⟩ := conBs_ok (kt.imp id id) h6
            have e1 : osl = #[] := Array.eq_empty_of_size_eq_zero (of_decide_eq_true h3)
            have e2 := of_decide_eq_true h1
            subst e1 e2
            exact ⟨.ref a, rfl, fun G => ⟨a, vs, rfl, .inr ⟨its, n, q, of_decide_eq_true h5, r⟩, rep G⟩⟩
          | _ => cases h
        | some d => cases dt <;> cases h
      | _ => cases od <;> cases dt <;> cases h
  | .dic _ _ _, u, kt, h => by simp [conB] at h
  | .fn _, u, kt, h => by simp [conB] at h
  | .obj _ _, u, kt, h => by simp [conB] at h
theorem conBs_ok {D : Dm} : ∀ {xs : List PV} {us : List Value}, (D.kt = false ∨ tfBs xs = true) → conBs D.K xs us = true → ∃ vs, Vals vs us ∧ ∀ G, RepVs D G xs vs
  | [], us, kt, h => by
    have : us = [] := by simpa [conBs] using h
    subst this
    exact ⟨[], .nil, fun _ => rfl⟩
  | x :: xs, us, kt, h => by
    cases us with
    | nil => simp [conBs] at h
    | cons u r =>
      obtain ⟨h1, h2⟩ := ba2 (show (conB D.K x u && conBs D.K xs r) = true by simpa only [conBs] using h)
      have kt1 : D.kt = false ∨ (tfB x = true ∧ tfBs xs = true) := kt.imp id fun z => ba2 z
      obtain ⟨w, a1, a2⟩ := conB_ok (kt1.imp id And.left) h1
      obtain ⟨vs, b1, b2⟩ := conBs_ok (kt1.imp id And.right) h2
      exact ⟨w :: vs, .cons a1 b1, fun G => ⟨w, vs, rfl, a2 G, b2 G⟩⟩
end
def consB (K : PySem.W.Frag) (cs : List (PV × Str)) : Bool := cs.all fun p => conB K p.1 (.ref (He.ga K p.2))
theorem consB_at {D : Dm} {cs : List (PV × Str)} (h : consB D.K cs = true) {i : Nat} {x : PV} {n : Str} (hi : cs[i]? = some (x, n)) (kt : D.kt = false ∨ tfB x = true) (G : Hp) : RepV D G x (.ref (He.ga D.K n)) := by
  have := List.all_eq_true.mp h _ (List.mem_of_getElem? hi)
  obtain ⟨w, a, b⟩ := conB_ok kt this
  have e : w = .ref (He.ga D.K n) := by
    cases w <;> first | (cases a; rfl) | (obtain ⟨_, z⟩ := a; cases z) | (cases a)
  rw [← e]
  exact b G
/-- a tuple of the module, no more to it -/
def TupC (K : PySem.W.Frag) (n : Str) : Prop := ∃ o, K.lookup (He.ga K n) = some o ∧ o.cls = .type "tuple" ∧ o.dict = none
theorem consT_at {D : Dm} {cs : List (PV × Str)} (h : consB D.K cs = true) {i : Nat} {xs : List PV} {n : Str} (hi : cs[i]? = some (.tup xs, n)) : TupC D.K n := by
  have h := List.all_eq_true.mp h _ (List.mem_of_getElem? hi)
  have h : (match D.K.lookup (He.ga D.K n) with
      | some ⟨.type c, none, .seq its _, _⟩ => decide (c = "tuple") && (decide (its.size ≤ sizeLine) && conBs D.K xs its.toList)
      | _ => false) = true := by simpa only [conB] using h
  cases q : D.K.lookup (He.ga D.K n) with
  | none => rw [q] at h; cases h
  | some o =>
    obtain ⟨oc, od, dt, osl⟩ := o
    rw [q] at h
    cases oc with
    | type c =>
      cases od with
      | none =>
        cases dt with
        | seq its n =>
          obtain ⟨h1, h2⟩ := ba2 h
          exact ⟨_, q, congrArg Value.type (of_decide_eq_true h1), rfl⟩
        | _ => cases h
      | some d => cases dt <;> cases h
    | _ => cases od <;> cases dt <;> cases h
def hookE (n : Nat) (fa : List He.Fa) (fn : List He.DefD) (cs : List (PV × Str)) : PySem.W.Hook where
  α := He.AlD × Bool
  obs := fun s => (He.obsDG n fa fn s.heap.get?, consB (He.frG s.heap.get? (He.asD s.heap.get? n)) cs)
  val := fun _ => (He.valD fn, true)
  says := fun _ h => ∃ K : PySem.W.Frag, K.In h ∧ (He.SaysD fa fn K ∧ consB K cs = true)
  of := fun _ _ e => ⟨_, He.frG_in, congrArg (fun z : He.AlD × Bool => z.1) e, congrArg (fun z : He.AlD × Bool => z.2) e⟩
  keeps := fun _ _ _ ⟨K, hK, c⟩ k => ⟨K, PySem.W.Frag.In.keeps hK k, c⟩
def obE (n : Nat) (fa : List He.Fa) (fn : List He.DefD) (cs : List (PV × Str)) (g : Addr → Option Obj) : He.AlD × Bool := (He.obsDG n fa fn g, consB (He.frG g (He.asD g n)) cs)
theorem obE_eq {n : Nat} {fa : List He.Fa} {fn : List He.DefD} {cs : List (PV × Str)} {g : Addr → Option Obj} {s : Shared} (h : ∀ a, g a = s.heap.get? a) : obE n fa fn cs g = (hookE n fa fn cs).obs s := by
  have e : g = s.heap.get? := funext h
  rw [e] <;> rfl
section
variable {D : Dm} {X : Cx} {C : Calls} {W : WX} {B L : List Nat} {rm : Nat} {P : List Nat} {ms ms1 ms2 ms3 : List Nat} {M M1 M2 M3 : List Nat} {σ σ0 σ1 : L2.St} {s0 s1 s2 : Sta} {x y : PV} {v u : V} {dl dl1 dl2 dl3 : Dl} {a b c : CE} {ea eb ec tg : Expr} {pos p1 p2 p3 p4 p5 : Pos} {st : Stmt} {Dn : Ends}
theorem s_glC {n : Nat} {p : PV} {a : Addr} {x : Str} (hg : Gl X x) (hm : X.mg x = some (.ref a)) (hv : ∀ G, RepV D G p (.ref a)) (hd : (x == ("__debug__" : Str)) = false) : SE D X C W ms [] .sh (.gl n p) (.Name x pos) := s_gl hg hm (w := .ref a) rfl hv hd
/-- t.index(x), t a tuple of the module -/
theorem s_tidx {k : Nat} {p : PV} {x n nm : Str} {apos : Pos} (e : D.K = X.K) (hu : X.A.units + 65 < cLine) (hn : m1N .tindex = nm) (hg : Gl X x) (hm : X.mg x = some (.ref (He.ga D.K n))) (hv : ∀ G, RepV D G p (.ref (He.ga D.K n))) (ht : TupC D.K n) (hd : (x == ("__debug__" : Str)) = false) (hp : m1Ty .tindex p = true) (hb : SE D X C W ms M2 dl2 b eb) (h2 : opOk dl2 [] = true)
    (ha1 : attributeBase (.Name x p1) nm X.env (eval (.Name x p1) X.env) = eval (.Name x p1) X.env) (hl : (apos.endLine == pos.line) = true) (hst : starEach [eb] X.env = (false, eval eb X.env) :: starEach [] X.env)
    (hk : (((((backTo pos (starEach [eb] X.env)).all fun x => !x.fst) && (backToKw pos (keywordEach [] X.env)).all fun x => x.fst.isSome) && decide ((([eb] : List Expr).length + ([] : List Keyword).length + if ([] : List Keyword).isEmpty = true then 0 else 1) < 30)) = true)) : SE D X C W ms M2 (.own 1) (.m1 .tindex (.gl k p) b) (.Call (.Attribute (.Name x p1) nm apos) [eb] [] pos) := by
  subst hn
  have key : PE X (.Call (.Attribute (.Name x p1) (m1N .tindex) apos) [eb] [] pos) (tBM X.K "tuple" (fun x vs H Q => ∃ G y pa pb r, vs = [y] ∧ (∀ b o, G b = some o → H b = some o) ∧ RdE D G H pa x ∧ RdE D G H pb y ∧ m1 .tindex pa pb = some r ∧ ∀ v H' G', Made D G H true r v H' G' → Q v H') (tC (.ref (He.ga D.K n))) (tCons (Rd D W ms M2 (fun σ => Dlv D ms σ dl2) (evE C b)) tNil)) :=
    pe_bm PySem.F.plainAttrs_tuple PySem.F.slot_tuple_index PySem.F.type_tuple_index (mt_m1 (X := X) e hu .tindex) (pe_glob hg hm rfl hd) (pa_cons hb pa_nil hst) ha1 hk hl hst rfl
  refine PE.imp key fun σ H Q ⟨env, G, Fp, R, h⟩ => ?_
  obtain ⟨o, o1, o2, o3⟩ := ht
  have h : PoA D W ms σ M2 (Dlv D ms σ (.own 1)) ⟨env, H, G, Fp⟩ (if m1Ty .tindex p = true then ((evE C b env).bind fun y e2 => Ev.R.of (m1 .tindex p y) e2) else .st) Q := h
  rw [if_pos hp] at h
  refine ⟨.inr (.inl ⟨rfl, o, e ▸ o1, o2, o3⟩), PoA.next (s1 := ⟨env, H, G, Fp⟩) (del0 := fun σ => Dlv D ms σ dl2) h R Ext.refl (fun _ h => h) fun y vy s2 R2 E2 E2' d2 h2' => ?_⟩
  obtain ⟨r, hr, k⟩ := PoA.of h2'
  exact ⟨s2.G, vy, _, y, r, rfl, R2.sub, .inl (hv _), d2.here h2 R2, hr, fun v H' G' m => fin_made (f := true) R2 E2' m k⟩
/-! ### x[::-1] -/
def tRevB (K : PySem.W.Frag) (te : TE) : TE := fun σ H Q => te σ H fun x H1 => (∃ a xs, x = .ref a ∧ SqL K H1 a xs ∧ ∀ p, H1 p = none → Q (.ref p) (upd H1 p (.lst xs.reverse))) ∨ ∃ l : List Nat, okS l ∧ x = .str (S l) ∧ Q (.str (S l.reverse)) H1
theorem str_rev (l : List Nat) (t t2 : Tok) : slicePicked (S l) none none (some (-1, t2)) = (List.range l.length).reverse := by
  unfold slicePicked Builtin.Str.strSliceIndices
  show sliceRange (((S l).length : Int) - 1) (-1) (-1) = _
  rw [PySem.W.krv_sliceRange, PySem.W.krv_range]
  rfl
theorem pe_revB {e : Expr} {te : TE} {k : Nat} {p1 p2 p3 pos : Pos} (he : PE X e te) : PE X (.Subscript e (.Slice none none (some (.UnaryOp .USub (.Constant (.int 1) k p1) p2)) p3) pos) (tRevB X.K te) := by
  refine ⟨fun pins s σ H Q I h => ?_⟩
  refine Subscript_ (thn (he.run pins s σ H _ I h) fun v s1 ⟨x, H1, I1, r1, q1⟩ => ?_)
  have hst : PO X (some (.UnaryOp .USub (.Constant (.int 1) k p1) p2)) (tPart (tUn (rU fun i => .int (-i)) (tC (.int 1)))) := po_some (pe_un un_neg pe_int)
  refine wpAny_Slice (thn (po_none.run pins s1 σ H1 (fun o H2 => o = none ∧ H2 = H1) I1 ⟨rfl, rfl⟩) fun vl s2 ⟨l, H2, I2, pl, el, e2⟩ => ?_)
  subst el e2
  refine thn (po_none.run pins s2 σ H2 (fun o H3 => o = none ∧ H3 = H2) I2 ⟨rfl, rfl⟩) fun vu s3 ⟨u, H3, I3, pu, eu, e3⟩ => ?_
  subst eu e3
  refine thn (hst.run pins s3 σ H3 (fun o H4 => o = some (-1) ∧ H4 = H3) I3 ⟨1, rfl, -1, rfl, rfl, rfl⟩) fun vs s4 ⟨o, H4, I4, ps, eo, e4⟩ => ?_
  subst eo e4
  have I5 : Inv X pins σ H4 { s4 with heap := s4.heap.push { cls := .type "slice", data := .fields #[vl, vu, vs] } } := I4.kept (t' := s4.toks) fun b ob q => Heap.get?_push_of_some _ q
  rcases q1 with ⟨a, xs, ex, hx, q⟩ | ⟨l, ok, ex, q⟩
  · subst ex
    cases r1
    obtain ⟨its, r, ht, hz⟩ := I5.list hx
    have hlen := r.length
    show wpAny (model X.prog X.w) X.A (subscriptTail e (.Slice none none (some (.UnaryOp .USub (.Constant (.int 1) k p1) p2)) p3) (.ref a) (.ref s4.heap.objs.size)) (EP X pins σ Q) X.xe { s4 with heap := s4.heap.push { cls := .type "slice", data := .fields #[vl, vu, vs] } }
    refine tail_any (ops := [.ref a, .ref s4.heap.objs.size]) ht.isList.typeIs (PySem.slot_list_getitem.lookup) ?_ (by with_unfolding_all rfl)
    refine wpAny_getItem_list_slice ht.isList (Heap.IsSliceOf.new _ vl vu vs) pl pu ps (by decide) ?_ (by rw [List.size_toArray]; omega)
    rw [PySem.W.krv_pick]
    refine ⟨.ref _, _, I5.laid (t' := s4.toks) (o := .lst xs.reverse) (fun b ob q => Heap.get?_push_of_some _ q) (Nat.le_refl _) ?_, rfl, q _ (I5.hok.fresh (Nat.le_refl _))⟩
    exact ⟨by rw [List.length_reverse]; exact hz, _, 0, r.reverse, Heap.get?_push_size _ rfl⟩
  · subst ex
    obtain ⟨t, rfl⟩ := r1
    cases pl
    cases pu
    obtain ⟨t2, rfl⟩ : ∃ t2, vs = .int (-1) t2 := by cases ps; exact ⟨_, rfl⟩
    show wpAny (model X.prog X.w) X.A (subscriptTail e (.Slice none none (some (.UnaryOp .USub (.Constant (.int 1) k p1) p2)) p3) (.str (S l) t) (.ref s4.heap.objs.size)) (EP X pins σ Q) X.xe { s4 with heap := s4.heap.push { cls := .type "slice", data := .fields #[.none, .none, .int (-1) t2] } }
    refine tail_any (ops := [.str (S l) t, .ref s4.heap.objs.size]) (typeIs_str _ _ t) slot_str_getitem.lookup ?_ (by with_unfolding_all rfl)
    refine wpAny_getItem_str_slice (l := none) (u := none) (st := some (-1, t2)) ⟨_, Heap.get?_push_size _ rfl, rfl, rfl⟩ rfl ?_
    unfold sliceMade
    rw [str_rev l t t2]
    rw [if_neg (show ¬ ((Option.map (fun x : Int × Tok => x.fst) (some (-1, t2))).getD 1 == 1 && (List.range l.length).reverse.length == (S l).length) = true by simp)]
    have e : (List.filterMap (fun x => (S l).cps[x]?) (List.range l.length).reverse).toArray = l.reverse.toArray := by
      rw [List.filterMap_reverse]
      congr 2
      have := PySem.W.krv_all l.toArray
      simpa using this
    rw [e]
    exact ⟨by have := ok.1; rw [sizeLine_eq]; simpa [Str.length] using this, .str (S l.reverse), H4, I5.tok _, ⟨_, rfl⟩, q⟩
theorem s_rev (e : D.K = X.K) {k : Nat} {q1 q2 q3 : Pos} (ha : SE D X C W ms M dl a ea) (h1 : opOk dl [] = true) : SE D X C W ms M (.own 1) (.rev a) (.Subscript ea (.Slice none none (some (.UnaryOp .USub (.Constant (.int 1) k q1) q2)) q3) pos) := by
  refine PE.imp (pe_revB ha) fun σ H Q ⟨env, G, Fp, R, h⟩ => ?_
  refine PoA.next (s1 := ⟨env, H, G, Fp⟩) (del0 := fun σ => Dlv D ms σ dl) h R Ext.refl (fun _ h => h) fun x vx s1 R1 E1 E1' d1 h1' => ?_
  obtain ⟨r, hr, k⟩ := PoA.of h1'
  cases x <;> simp [revB] at hr
  · subst hr
    obtain ⟨ok, rfl⟩ := (d1.here h1 R1).str
    refine .inr ⟨_, ok, rfl, k _ _ _ _ R1 E1' ⟨[], Tmp.flat ⟨⟨by rw [List.length_reverse]; exact ok.1, fun c hc => ok.2 c (List.mem_reverse.mp hc)⟩, rfl⟩ rfl, fun _ _ _ _ => List.not_mem_nil⟩⟩
  · subst hr
    obtain ⟨p, vs, rfl, q, rs⟩ := (d1.here h1 R1).lst R1.sub
    exact .inl ⟨p, vs, rfl, e ▸ q.sq, fun p' hp => fin_made (f := true) R1 E1' (Made.lst hp rs.rev) k⟩
end
end Ev

/-! Ev23: a list that is lent for the time of a test. -/
namespace Ev
open PySem PySem.Spec PyProof.Rows L2
section
variable {D : Dm} {X : Cx} {C : Calls} {W : WX} {ms ms0 : List Nat} {a : CE} {ea : Expr} {σ : L2.St}
theorem Rel.thaw {env env1 : Env} {H H1 G G' G1 : Hp} {Fp Fp' Fp1 : Fps} (R : RelS D ms σ ⟨env, H, G, Fp⟩) (R1 : RelS D ms0 σ ⟨env1, H1, G1, Fp1⟩) (E : ExtS [] ⟨env, H, G', Fp'⟩ ⟨env1, H1, G1, Fp1⟩) :
    RelS D ms σ ⟨env1, H1, G, Fp⟩ ∧ ExtS [] ⟨env, H, G, Fp⟩ ⟨env1, H1, G, Fp⟩ := by
  have hM : ∀ i : Nat, ¬ i ∈ ([] : List Nat) := fun i h => nomatch h
  have all : ∀ b o, H b = some o → H1 b = some o := E.all hM
  have sm : ∀ i, getV env1 i = getV env i := fun i => (E.same i (hM i)).2
  refine ⟨⟨fun i x e => ?_, fun i e => R.no i ((sm i).symm.trans e), fun b o e => all b o (R.sub b o e), R.dis, R.nd, R.sep, R1.len⟩, ⟨fun b o e n => ⟨all b o e, n, fun q => q⟩, fun i b o _ _ e => all b o e, fun _ _ e => e, fun i _ => ⟨rfl, sm i⟩⟩⟩
  obtain ⟨v, e1, o⟩ := R.at_ i x ((sm i).symm.trans e)
  exact ⟨v, e1, o.mono (fun _ _ e => e) fun b _ u e => all b u e⟩
theorem st_frz0 (h : ST D X C W ms0 [] a ea) (hd : dmOk ms ms0 = true) : ST D X C W ms [] a ea := PT.imp h fun σ H Q ⟨env, G, Fp, R, p⟩ => by
  obtain ⟨G', Fp', R', E'⟩ := Rel.dem R hd
  refine ⟨env, G', Fp', R', ?_⟩
  unfold PoA at p ⊢
  dsimp only at p ⊢
  cases e : tst (evE C a env) with
  | ok t env1 =>
    rw [e] at p
    intro b H1 G1 Fp1 R1 E1 d
    obtain ⟨R2, E2⟩ := Rel.thaw R R1 E1
    exact p b H1 G Fp R2 E2 d
  | ex c env1 =>
    rw [e] at p
    intro H1 G1 Fp1 R1 E1
    obtain ⟨R2, E2⟩ := Rel.thaw R R1 E1
    exact p H1 G Fp R2 E2
  | st => rw [e] at p; exact p
theorem st_frz {M : List Nat} (h : ST D X C W ms0 M a ea) (hd : dmOk ms ms0 = true) (hM : M = []) : ST D X C W ms M a ea := by
  subst hM
  exact st_frz0 h hd
end
end Ev

/-! Ev24: comprehensions with two generators. -/
namespace Ev
open PySem PySem.Spec PyProof.Rows L2
theorem Rel.congr {D : Dm} {m : Nat → Nat} {env env' : Env} {σ : L2.St} {H G : Hp} {Fp : Fps} (R : Rel D m env σ H G Fp) (h : ∀ i, getV env' i = getV env i) (hl : env'.length = env.length) : Rel D m env' σ H G Fp :=
  ⟨fun i x e => R.at_ i x ((h i).symm.trans e), fun i e => R.no i ((h i).symm.trans e), R.sub, R.dis, R.nd, R.sep, hl.trans R.len⟩
/-- within the walk of a comprehension, the slots ow wiped -/
structure CpJ (D : Dm) (ms : List Nat) (M os ow : List Nat) (σ : L2.St) (s1 : Sta) (Gb : Hp) (p : Addr) (acc : List PV) (ei : Env) (H : Hp) : Prop where
  ex : ∃ G Fp vs, RelS D ms (wipe σ ow) ⟨wipeE ei ow, H, G, Fp⟩ ∧ H p = some (.lst vs) ∧ RepVs D G acc vs ∧ (∀ i, p ∉ Fp i) ∧ G p = none ∧
    (∀ b o, s1.H b = some o → (∀ i, b ∉ s1.Fp i) → H b = some o ∧ (∀ i, b ∉ Fp i) ∧ (s1.G b = none → G b = none)) ∧
    (∀ i b o, b ∈ s1.Fp i → i ∉ M → s1.H b = some o → H b = some o) ∧ (∀ b o, s1.G b = some o → G b = some o) ∧ (∀ i, i ∉ M → i ∉ os → Fp i = s1.Fp i ∧ getV ei i = getV s1.env i) ∧ (∀ i, i ∉ M → Fp i = s1.Fp i) ∧ ei.length = s1.env.length ∧
    (∀ b o, Gb b = some o → G b = some o)
section
variable {D : Dm} {X : Cx} {C : Calls} {W : WX} {ms : List Nat} {M M1 M2 M3 M4 M5 : List Nat} {σ : L2.St} {s0 s1 : Sta} {c : CE}
theorem CpJ.turn {os ow Mb : List Nat} {p : Addr} {acc : List PV} {ei e3 e5 : Env} {H H4 G G4 Gb : Hp} {Fp Fp4 : Fps} {vs : List V} {σ' σ2 : L2.St}
    (hv : H p = some (.lst vs)) (rv : RepVs D G acc vs) (np : ∀ i, p ∉ Fp i) (gp : G p = none)
    (far : ∀ b o, s1.H b = some o → (∀ i, b ∉ s1.Fp i) → H b = some o ∧ (∀ i, b ∉ Fp i) ∧ (s1.G b = none → G b = none))
    (own : ∀ i b o, b ∈ s1.Fp i → i ∉ M → s1.H b = some o → H b = some o) (mono : ∀ b o, s1.G b = some o → G b = some o) (same : ∀ i, i ∉ M → i ∉ os → Fp i = s1.Fp i ∧ getV ei i = getV s1.env i) (sameF : ∀ i, i ∉ M → Fp i = s1.Fp i)
    (R' : RelS D ms σ' ⟨e5, H4, G4, Fp4⟩) (E : ExtS Mb ⟨e3, H, G, Fp⟩ ⟨e5, H4, G4, Fp4⟩) (hMb : ∀ i, i ∈ Mb → i ∈ M) (hw : wipe σ' ow = wipe σ2 ow) (h3 : ∀ j, j ∉ os → getV e3 j = getV ei j) (h0 : ∀ i, i ∈ ow → gm ms i = 0) (hs1 : s1.env.length = σ'.length) (hb : ∀ b o, Gb b = some o → G4 b = some o) :
    CpJ D ms M os ow σ2 s1 Gb p acc e5 H4 where
  ex := by
    obtain ⟨hv4, np4, gp4⟩ := E.far p _ hv np
    have w := Rel.wiped R' h0
    rw [hw] at w
    refine ⟨G4, Fp4, vs, w, hv4, RepVs.mono E.mono rv, np4, gp4 gp, fun b o e n => ?_, fun i b o hb hm e => ?_, fun b o e => E.mono b o (mono b o e), fun i hm ho => ?_, fun i hm => ?_, ?_, hb⟩
    · obtain ⟨a1, a2, a3⟩ := far b o e n
      obtain ⟨b1, b2, b3⟩ := E.far b o a1 a2
      exact ⟨b1, b2, fun q => b3 (a3 q)⟩
    · exact E.own i b o (by dsimp only; rw [sameF i hm]; exact hb) (fun z => hm (hMb i z)) (own i b o hb hm e)
    · obtain ⟨a1, a2⟩ := E.same i (fun z => hm (hMb i z))
      obtain ⟨b1, b2⟩ := same i hm ho
      exact ⟨a1.trans b1, a2.trans ((h3 i ho).trans b2)⟩
    · exact (E.same i (fun z => hm (hMb i z))).1.trans (sameF i hm)
    · exact R'.len.trans hs1.symm
theorem CpJ.turn2 {os ow Mb : List Nat} {p : Addr} {acc : List PV} {ei e3 e5 : Env} {H H4 G G4 Gb : Hp} {Fp Fp4 : Fps} {vs : List V} {σ' σ2 : L2.St} {z : PV} {y : V}
    (hv : H p = some (.lst vs)) (rv : RepVs D G acc vs) (np : ∀ i, p ∉ Fp i) (gp : G p = none)
    (far : ∀ b o, s1.H b = some o → (∀ i, b ∉ s1.Fp i) → H b = some o ∧ (∀ i, b ∉ Fp i) ∧ (s1.G b = none → G b = none))
    (own : ∀ i b o, b ∈ s1.Fp i → i ∉ M → s1.H b = some o → H b = some o) (mono : ∀ b o, s1.G b = some o → G b = some o) (same : ∀ i, i ∉ M → i ∉ os → Fp i = s1.Fp i ∧ getV ei i = getV s1.env i) (sameF : ∀ i, i ∉ M → Fp i = s1.Fp i)
    (R' : RelS D ms σ' ⟨e5, H4, G4, Fp4⟩) (E : ExtS Mb ⟨e3, H, G, Fp⟩ ⟨e5, H4, G4, Fp4⟩) (hMb : ∀ i, i ∈ Mb → i ∈ M) (hw : wipe σ' ow = wipe σ2 ow) (h3 : ∀ j, j ∉ os → getV e3 j = getV ei j) (h0 : ∀ i, i ∈ ow → gm ms i = 0) (hs1 : s1.env.length = σ'.length) (hb : ∀ b o, Gb b = some o → G4 b = some o)
    (hp : s1.H p = none) (ry : RepV D G4 z y) : H4 p = some (.lst vs) ∧ CpJ D ms M os ow σ2 s1 Gb p (acc ++ [z]) e5 (upd H4 p (.lst (vs ++ [y]))) := by
  obtain ⟨hv4, np4, gp4⟩ := E.far p _ hv np
  have w := Rel.wiped R' h0
  rw [hw] at w
  have ne : ∀ b o, s1.H b = some o → b ≠ p := fun b o e => ne_of_none e hp
  refine ⟨hv4, ⟨G4, Fp4, vs ++ [y], w.other np4 (gp4 gp), upd_same, RepVs.app (RepVs.mono E.mono rv) ⟨y, [], rfl, ry, rfl⟩, np4, gp4 gp, fun b o e n => ?_, fun i b o hb hm e => ?_, fun b o e => E.mono b o (mono b o e), fun i hm ho => ?_, fun i hm => ?_, ?_, hb⟩⟩
  · obtain ⟨a1, a2, a3⟩ := far b o e n
    obtain ⟨b1, b2, b3⟩ := E.far b o a1 a2
    exact ⟨by rw [upd_ne (ne b o e)]; exact b1, b2, fun q => b3 (a3 q)⟩
  · rw [upd_ne (ne b o e)]
    exact E.own i b o (by dsimp only; rw [sameF i hm]; exact hb) (fun z => hm (hMb i z)) (own i b o hb hm e)
  · obtain ⟨a1, a2⟩ := E.same i (fun z => hm (hMb i z))
    obtain ⟨b1, b2⟩ := same i hm ho
    exact ⟨a1.trans b1, a2.trans ((h3 i ho).trans b2)⟩
  · exact (E.same i (fun z => hm (hMb i z))).1.trans (sameF i hm)
  · exact R'.len.trans hs1.symm
theorem CpJ.out {os ow : List Nat} {p : Addr} {acc : List PV} {ei : Env} {H Gb : Hp} {σ' : L2.St} (I : CpJ D ms M os ow σ' s1 Gb p acc ei H) (hsub : ∀ i, i ∈ ow → i ∈ os) (hw : wipe σ' os = wipe σ os) (h0 : ∀ i, i ∈ os → gm ms i = 0) : CpI D ms M os σ s1 p acc ei H where
  ex := by
    obtain ⟨G, Fp, vs, R, hv, rv, np, gp, far, own, mono, same, sameF, len, _⟩ := I.ex
    have w := Rel.wiped R h0
    have e1 : wipe (wipe σ' ow) os = wipe σ' os := wipe_same (wipe_len ow σ') fun j hj => wipe_get ow σ' j fun z => hj (hsub j z)
    rw [e1, hw] at w
    refine ⟨G, Fp, vs, Rel.congr w (fun i => ?_) ?_, hv, rv, np, gp, far, own, mono, same, sameF, len⟩
    · rw [getV_wipeE, getV_wipeE, getV_wipeE]
      by_cases h : i ∈ os
      · rw [if_pos h, if_pos h]
      · rw [if_neg h, if_neg h, if_neg fun z => h (hsub i z)]
    · rw [wipeE_len, wipeE_len, wipeE_len]
theorem fin_list2 {f : PV → Env → Ev.R (List PV)} {xs : List PV} {env : Env} {g : List PV → Env → Ev.R PV} {Q : V → Hp → Prop}
    (h : PoA D W ms σ M (Dlv D ms σ (.own 1)) s0 ((noX (compL2 f xs env)).bind g) Q) (hg : ∀ vs e, g vs e = if vs.length ≤ SZ then .ok (.lst vs) (backE env e M1) else .st) :
    ∃ vs e6, compL2 f xs env = .ok vs e6 ∧ vs.length ≤ SZ ∧ ∀ b H G Fp, RelS D ms σ ⟨backE env e6 M1, H, G, Fp⟩ → ExtS M s0 ⟨backE env e6 M1, H, G, Fp⟩ → Dlv D ms σ (.own 1) (.lst vs) b s0 ⟨backE env e6 M1, H, G, Fp⟩ → Q b H := by
  cases e : compL2 f xs env with
  | ok vs e6 =>
    rw [e] at h
    have h : PoA D W ms σ M (Dlv D ms σ (.own 1)) s0 (g vs e6) Q := h
    rw [hg] at h
    by_cases hl : vs.length ≤ SZ
    · rw [if_pos hl] at h
      exact ⟨vs, e6, rfl, hl, h⟩
    · rw [if_neg hl] at h
      exact h.elim
  | ex c e6 => rw [e] at h; exact h.elim
  | st => rw [e] at h; exact h.elim
theorem compL2_cons {f : PV → Env → Ev.R (List PV)} {x : PV} {xs r : List PV} {env e6 : Env} (h : compL2 f (x :: xs) env = .ok r e6) : ∃ o e1 r', f x env = .ok o e1 ∧ compL2 f xs e1 = .ok r' e6 ∧ r = o ++ r' := by
  obtain ⟨o, e1, h1, h2⟩ := Ev.R.bind_ok h
  obtain ⟨r', e2, h3, h4⟩ := Ev.R.bind_ok h2
  cases h4
  exact ⟨o, e1, r', h1, h3, rfl⟩
theorem memM {i : Nat} {A B : List Nat} (h : i ∈ B) : i ∈ A ++ B := List.mem_append.mpr (.inr h)
theorem drop_at {xs : List PV} {i : Nat} {pv : PV} (hlt : i < xs.length) (hpv : xs[i]? = some pv) : xs.drop i = pv :: xs.drop (i + 1) := by
  rw [List.drop_eq_getElem_cons hlt]
  congr 1
  rw [List.getElem?_eq_getElem hlt] at hpv
  exact Option.some.inj hpv
theorem cp2_read {it it1 : CI} {os : List Nat} {t t1 : Ev.TG} {ifs ifs1 : Option CE} {d : Nat} {H : Hp} {Q : VK} (h0 : ∀ i, i ∈ os → gm ms i = 0) (htg : ∀ i, i ∈ tgs t → i ∈ os) (htg1 : ∀ i, i ∈ tgs t1 → i ∈ os)
    (h : Rd D W ms (M1 ++ (M2 ++ (M3 ++ (M4 ++ M5)))) (fun σ => Dlv D ms σ (.own 1)) (evE C (.cp2 d os t it ifs t1 it1 ifs1 c)) σ H Q) :
    tLc2 (Rd D W ms M1 (fun _ xs J _ s => ItOk D s.G xs J) (evI C it)) (RdG D ms t) (Rd D WF ms M2 (fun _ (a b : Bool) _ _ => a = b) (evC C ifs)) (Rd D WF ms M3 (fun _ xs J _ s => ItOk D s.G xs J) (evI C it1)) (RdG D ms t1) (Rd D WF ms M4 (fun _ (a b : Bool) _ _ => a = b) (evC C ifs1)) (Rd D WF ms M5 (fun σ => Dlv D ms σ .sh) (evE C c)) os (tgs t1) σ H Q := by
  obtain ⟨env, G, Fp, R, h⟩ := h
  have h01 : ∀ i, i ∈ tgs t1 → gm ms i = 0 := fun i hi => h0 i (htg1 i hi)
  refine PoA.next (s1 := ⟨env, H, G, Fp⟩) (ev := evI C it) (del0 := fun _ xs J _ s => ItOk D s.G xs J) h R Ext.refl memL fun xs J s1 R1 E1 E1' d1 k1 => ?_
  obtain ⟨vs, e6, hcp, hl, kf⟩ := fin_list2 k1 (fun _ _ => rfl)
  intro p hp
  refine ⟨fun i m H => m = xs.length - i ∧ i ≤ xs.length ∧ ∃ acc ei r, compL2 _ (xs.drop i) ei = .ok r e6 ∧ acc ++ r = vs ∧ CpI D ms (M1 ++ (M2 ++ (M3 ++ (M4 ++ M5)))) os σ s1 p acc ei H, ⟨_, rfl, Nat.zero_le _, [], s1.env, vs, hcp, rfl, CpI.start R1 h0 hp⟩, fun i m H ⟨hm, hi, acc, ei, r, hr, ha, I⟩ => ?_⟩
  have I0 := I
  obtain ⟨G, Fp, us, Ri, hv, rv, np, gp, far, own, mono, same, sameF, len⟩ := I.ex
  obtain ⟨go, stp, yl⟩ := d1 H i fun b o e => Ri.sub b o (mono b o e)
  by_cases hlt : i < xs.length
  · right
    refine ⟨go hlt, fun H' => ∃ acc ei r, compL2 _ (xs.drop (i + 1)) ei = .ok r e6 ∧ acc ++ r = vs ∧ CpI D ms (M1 ++ (M2 ++ (M3 ++ (M4 ++ M5)))) os σ s1 p acc ei H', fun H' ⟨acc, ei, r, q1, q2, q3⟩ => ⟨_, ?_, rfl, by omega, acc, ei, r, q1, q2, q3⟩, fun x H' hy => ?_⟩
    · omega
    · obtain ⟨hH, pv, hpv, rpv⟩ := yl x H' hy hlt
      rw [hH]
      rw [drop_at hlt hpv] at hr
      obtain ⟨o, e5, r', hfx, hrest, hr'⟩ := compL2_cons hr
      have hfx : (match setTG t pv (wipeE ei os) with
        | some e3 => (evC C ifs e3).bind fun t e4 => if t then (evI C it1 e4).bind fun ys e5 => compL (fun y e6 => match setTG t1 y (wipeE e6 (tgs t1)) with
          | some e7 => (evC C ifs1 e7).bind fun t1 e8 => if t1 then (evE C c e8).bind fun v e9 => .ok (some v) e9 else .ok none e8
          | none => .st) ys e5 else .ok [] e4
        | none => .st) = Ev.R.ok o e5 := hfx
      cases q3 : setTG t pv (wipeE ei os) with
      | none => rw [q3] at hfx; cases hfx
      | some e3 =>
        rw [q3] at hfx
        obtain ⟨tt, e4, h4, h5⟩ := Ev.R.bind_ok hfx
        refine ⟨pv, wipeE ei os, G, Fp, e3, Ri, RepV.mono mono rpv, q3, fun σ' R3 hσ => ?_⟩
        have hl' : σ'.length = σ.length := by
          have a1 := R3.len
          have a2 := R1.len
          have a3 := setTG_len q3
          rw [wipeE_len] at a3
          dsimp only at a1
          omega
        have hw : wipe σ' os = wipe σ os := wipe_same hl' fun j hj => by
          rw [(hσ j (fun z => hj (htg j z))).1, wipe_get os σ j hj]
        have h3 : ∀ j, j ∉ os → getV e3 j = getV (wipeE ei os) j := fun j hj => (hσ j (fun z => hj (htg j z))).2
        have h3' : ∀ j, j ∉ os → getV e3 j = getV ei j := fun j hj => by rw [h3 j hj, getV_wipeE, if_neg hj]
        have hs1 : s1.env.length = σ'.length := R1.len.trans hl'.symm
        refine ⟨hw, Rd.of_ok (s := ⟨e3, H, G, Fp⟩) R3 h4 fun b H3 G3 Fp3 R4 E4 hbt => ?_⟩
        subst hbt
        cases tt with
        | false =>
          rw [if_neg (by simp)] at h5 ⊢
          cases h5
          rw [hr', List.nil_append] at ha
          exact ⟨acc, _, r', hrest, ha, CpI.turn Ri hv rv np gp far own mono same sameF len R4 E4 (fun i h => memM (memL _ h)) hw h3 h0 hs1⟩
        | true =>
          rw [if_pos rfl] at h5 ⊢
          obtain ⟨ys, e5a, h6, h7⟩ := Ev.R.bind_ok h5
          refine Rd.of_ok (s := ⟨e4, H3, G3, Fp3⟩) R4 h6 fun J1 H4 G4 Fp4 R5 E5 d5 => ?_
          have E45 : ExtS (M2 ++ M3) ⟨e3, H, G, Fp⟩ ⟨e5a, H4, G4, Fp4⟩ := Ext.trans2 E4 E5 memL memR
          have m23 : ∀ i, i ∈ M2 ++ M3 → i ∈ M1 ++ (M2 ++ (M3 ++ (M4 ++ M5))) := fun i h => by
            rcases List.mem_append.mp h with h | h
            · exact memM (memL _ h)
            · exact memM (memM (memL _ h))
          refine ⟨fun j k H => k = ys.length - j ∧ j ≤ ys.length ∧ ∃ aj ej rj, compL _ (ys.drop j) ej = .ok rj e5 ∧ aj ++ rj = acc ++ o ∧ CpJ D ms (M1 ++ (M2 ++ (M3 ++ (M4 ++ M5)))) os (tgs t1) σ' s1 G4 p aj ej H, ⟨_, rfl, Nat.zero_le _, acc, e5a, o, h7, rfl, CpJ.turn hv rv np gp far own mono same sameF R5 E45 m23 rfl h3' h01 hs1 fun _ _ e => e⟩, fun j k H5 ⟨hk, hj, aj, ej, rj, hrj, haj, I1⟩ => ?_⟩
          have I10 := I1
          obtain ⟨G6, Fp6, us6, R6, hv6, rv6, np6, gp6, far6, own6, mono6, same6, sameF6, len6, gb6⟩ := I1.ex
          obtain ⟨go1, stp1, yl1⟩ := d5 H5 j fun b o e => R6.sub b o (gb6 b o e)
          by_cases hlt1 : j < ys.length
          · right
            refine ⟨go1 hlt1, fun H' => ∃ aj ej rj, compL _ (ys.drop (j + 1)) ej = .ok rj e5 ∧ aj ++ rj = acc ++ o ∧ CpJ D ms (M1 ++ (M2 ++ (M3 ++ (M4 ++ M5)))) os (tgs t1) σ' s1 G4 p aj ej H', fun H' ⟨aj, ej, rj, q1, q2, q3⟩ => ⟨_, ?_, rfl, by omega, aj, ej, rj, q1, q2, q3⟩, fun x1 H6 hy1 => ?_⟩
            · omega
            · obtain ⟨hH1, pv1, hpv1, rpv1⟩ := yl1 x1 H6 hy1 hlt1
              rw [hH1]
              rw [drop_at hlt1 hpv1] at hrj
              obtain ⟨oo, e9, rj', hfx1, hrest1, hrj'⟩ := compL_cons hrj
              cases q7 : setTG t1 pv1 (wipeE ej (tgs t1)) with
              | none => rw [q7] at hfx1; cases hfx1
              | some e7 =>
                rw [q7] at hfx1
                obtain ⟨tt1, e8, h8, h9⟩ := Ev.R.bind_ok hfx1
                refine ⟨pv1, wipeE ej (tgs t1), G6, Fp6, e7, R6, RepV.mono gb6 rpv1, q7, fun σ3 R7 hσ3 => ?_⟩
                have hl3 : σ3.length = σ'.length := by
                  have a1 := R7.len
                  have a3 := setTG_len q7
                  rw [wipeE_len] at a3
                  dsimp only at a1
                  omega
                have hw3 : wipe σ3 (tgs t1) = wipe σ' (tgs t1) := wipe_same hl3 fun j hj => by
                  rw [(hσ3 j hj).1, wipe_get (tgs t1) σ' j hj]
                have h37 : ∀ j, j ∉ os → getV e7 j = getV ej j := fun j hj => by
                  have hn : j ∉ tgs t1 := fun z => hj (htg1 j z)
                  rw [(hσ3 j hn).2, getV_wipeE, if_neg hn]
                have hs3 : s1.env.length = σ3.length := hs1.trans hl3.symm
                refine ⟨hw3, Rd.of_ok (s := ⟨e7, H5, G6, Fp6⟩) R7 h8 fun b H7 G7 Fp7 R8 E8 hbt => ?_⟩
                subst hbt
                cases tt1 with
                | false =>
                  rw [if_neg (by simp)] at h9 ⊢
                  cases h9
                  rw [hrj'] at haj
                  exact ⟨aj, _, rj', hrest1, haj, CpJ.turn hv6 rv6 np6 gp6 far6 own6 mono6 same6 sameF6 R8 E8 (fun i h => memM (memM (memM (memL _ h)))) hw3 h37 h01 hs3 fun b o e => E8.mono b o (gb6 b o e)⟩
                | true =>
                  rw [if_pos rfl] at h9 ⊢
                  obtain ⟨v, e9', h10, h11⟩ := Ev.R.bind_ok h9
                  cases h11
                  refine Rd.of_ok (s := ⟨e8, H7, G7, Fp7⟩) R8 h10 fun y H8 G8 Fp8 R9 E9 dy => ?_
                  have E89 : ExtS (M4 ++ M5) ⟨e7, H5, G6, Fp6⟩ ⟨e9, H8, G8, Fp8⟩ := Ext.trans2 E8 E9 memL memR
                  obtain ⟨hv8, I8⟩ := CpJ.turn2 (M := M1 ++ (M2 ++ (M3 ++ (M4 ++ M5)))) hv6 rv6 np6 gp6 far6 own6 mono6 same6 sameF6 R9 E89 (fun i h => memM (memM (memM h))) hw3 h37 h01 hs3 (fun b o e => E89.mono b o (gb6 b o e)) hp dy
                  refine ⟨us6, hv8, ?_, aj ++ [v], e9, rj', hrest1, ?_, I8⟩
                  · rw [← rv6.length]
                    have t1 : vs.length ≤ 16777216 := hl
                    have t2 := congrArg List.length haj
                    rw [← ha, hr'] at t1
                    rw [hrj'] at t2
                    simp only [List.length_append, List.length_cons] at t1 t2
                    show aj.length < 16777216
                    omega
                  · rw [List.append_assoc, List.singleton_append]
                    rw [hrj'] at haj
                    exact haj
          · left
            have hj' : j = ys.length := by omega
            refine ⟨stp1 (by omega), ?_⟩
            rw [hj', List.drop_length] at hrj
            cases hrj
            rw [List.append_nil] at haj
            refine ⟨aj, e5, r', hrest, ?_, CpJ.out I10 htg1 hw h0⟩
            rw [haj, List.append_assoc, ← hr']
            exact ha
  · left
    have hi' : i = xs.length := by omega
    refine ⟨stp (by omega), ?_⟩
    rw [hi', List.drop_length] at hr
    cases hr
    rw [List.append_nil] at ha
    subst ha
    exact CpI.fin I0 R1 E1' h0 hp kf
end
section
variable {D : Dm} {X : Cx} {C : Calls} {W : WX} {B L : List Nat} {rm : Nat} {P : List Nat} {ms : List Nat} {M1 M2 M3 M4 M5 : List Nat} {c : CE} {tg tg1 iter iter1 elt : Expr} {eifs eifs1 : List Expr} {scope : Scope} {ow : List (Str × Nat)} {os : List Nat} {t t1 : Ev.TG} {it it1 : CI} {ifs ifs1 : Option CE} {d : Nat} {pos p1 p2 : Pos}
theorem s_cp2 (e : D.K = X.K) (hc : X.calm = true) (hnd : X.N.Nodup) (ho : ow.map (fun x => x.snd) = os) (hi : SI D X C W ms M1 it tg iter) (hb : BlkOk X.N X.env.scope scope ow)
    (hg : ∀ (s : Shared) (H : Hp) (Ca : Addr) (cl : List (Str × Addr)) (fp : List Addr), SG D (X.blk s H scope (compEnvC scope cl Ca X.env) fp) ms t tg)
    (ht : ∀ (s : Shared) (H : Hp) (Ca : Addr) (cl : List (Str × Addr)) (fp : List Addr), SC D (X.blk s H scope (compEnvC scope cl Ca X.env) fp) C WF ms M2 ifs eifs)
    (hi1 : ∀ (s : Shared) (H : Hp) (Ca : Addr) (cl : List (Str × Addr)) (fp : List Addr), SI D (X.blk s H scope (compEnvC scope cl Ca X.env) fp) C WF ms M3 it1 tg1 iter1)
    (hg1 : ∀ (s : Shared) (H : Hp) (Ca : Addr) (cl : List (Str × Addr)) (fp : List Addr), SG D (X.blk s H scope (compEnvC scope cl Ca X.env) fp) ms t1 tg1)
    (ht1 : ∀ (s : Shared) (H : Hp) (Ca : Addr) (cl : List (Str × Addr)) (fp : List Addr), SC D (X.blk s H scope (compEnvC scope cl Ca X.env) fp) C WF ms M4 ifs1 eifs1)
    (he : ∀ (s : Shared) (H : Hp) (Ca : Addr) (cl : List (Str × Addr)) (fp : List Addr), SE D (X.blk s H scope (compEnvC scope cl Ca X.env) fp) C WF ms M5 .sh c elt)
    (h0 : ∀ i, i ∈ os → gm ms i = 0) (htg : ∀ i, i ∈ tgs t → i ∈ os) (htg1 : ∀ i, i ∈ tgs t1 → i ∈ os) (hf : ∀ x, foldedSetIterable iter X.env x = pure x) (hf1 : ∀ env x, foldedSetIterable iter1 env x = pure x) :
    SE D X C W ms (M1 ++ (M2 ++ (M3 ++ (M4 ++ M5)))) (.own 1) (.cp2 d os t it ifs t1 it1 ifs1 c) (.ListComp elt [⟨tg, iter, eifs, 0⟩, ⟨tg1, iter1, eifs1, 0⟩] scope pos) := by
  subst ho
  exact PE.imp (pe_lc2 hc hnd hi hb htg1 hg ht hi1 hg1 ht1 he hf hf1) fun σ H Q h => cp2_read h0 htg htg1 h
theorem ss_setLc2 {i : Nat} {nm : Str} (hc : X.calm = true) (hnd : X.N.Nodup) (hN : X.N[i]? = some nm) (hl : X.env.scope.names.lookup nm = some .local) (hi : i < ms.length) (hP : i ∉ P) (hB : dmOk ms B = true)
    (hsw : swapsWith (.ListComp elt [⟨tg, iter, eifs, 0⟩, ⟨tg1, iter1, eifs1, 0⟩] scope pos) (some (.Name nm p1)) p2.line X.env = pure true)
    (ho : ow.map (fun x => x.snd) = os) (hit : SI D X C W ms M1 it tg iter) (hb : BlkOk X.N X.env.scope scope ow)
    (hg : ∀ (s : Shared) (H : Hp) (Ca : Addr) (cl : List (Str × Addr)) (fp : List Addr), SG D (X.blk s H scope (compEnvC scope cl Ca X.env) fp) ms t tg)
    (ht : ∀ (s : Shared) (H : Hp) (Ca : Addr) (cl : List (Str × Addr)) (fp : List Addr), SC D (X.blk s H scope (compEnvC scope cl Ca X.env) fp) C WF ms M2 ifs eifs)
    (hi1 : ∀ (s : Shared) (H : Hp) (Ca : Addr) (cl : List (Str × Addr)) (fp : List Addr), SI D (X.blk s H scope (compEnvC scope cl Ca X.env) fp) C WF ms M3 it1 tg1 iter1)
    (hg1 : ∀ (s : Shared) (H : Hp) (Ca : Addr) (cl : List (Str × Addr)) (fp : List Addr), SG D (X.blk s H scope (compEnvC scope cl Ca X.env) fp) ms t1 tg1)
    (ht1 : ∀ (s : Shared) (H : Hp) (Ca : Addr) (cl : List (Str × Addr)) (fp : List Addr), SC D (X.blk s H scope (compEnvC scope cl Ca X.env) fp) C WF ms M4 ifs1 eifs1)
    (he : ∀ (s : Shared) (H : Hp) (Ca : Addr) (cl : List (Str × Addr)) (fp : List Addr), SE D (X.blk s H scope (compEnvC scope cl Ca X.env) fp) C WF ms M5 .sh c elt)
    (h0 : ∀ i, i ∈ os → gm ms i = 0) (htg : ∀ i, i ∈ tgs t → i ∈ os) (htg1 : ∀ i, i ∈ tgs t1 → i ∈ os) (hf : ∀ x, foldedSetIterable iter X.env x = pure x) (hf1 : ∀ env x, foldedSetIterable iter1 env x = pure x) :
    SS D X C W B L rm P ms (ms.set i 1) (.set i (.cp2 d os t it ifs t1 it1 ifs1 c)) (.Assign [.Name nm p1] (.ListComp elt [⟨tg, iter, eifs, 0⟩, ⟨tg1, iter1, eifs1, 0⟩] scope pos) p2) := by
  subst ho
  exact PS.imp (ps_setLc2 hc hnd hN hl hsw hit hb htg1 hg ht hi1 hg1 ht1 he hf hf1) fun Dn σ H h => tAsg_name (M := M1 ++ (M2 ++ (M3 ++ (M4 ++ M5)))) hi hP hB (fun Q q => cp2_read h0 htg htg1 q) h
end
end Ev

/-! Ev25: list(range(a, b, c)). -/
namespace Ev
open PySem PySem.Spec PyProof.Rows L2
def rgV3 (a c : Int) (n : Nat) : List V := (List.range n).map fun i => V.int (a + (i : Nat) * c)
theorem vals_rg3 {a c : Int} {n : Nat} {acc : Array Value} (h : ItemsOf (fun i v => ∃ t, v = .int (a + i * c) t) acc n) : Vals (rgV3 a c n) acc.toList := by
  have e : acc.toList.length = n := by rw [Array.length_toList]; exact h.1
  unfold rgV3
  rw [← e]
  refine vals_of_get acc.toList _ fun j u hj => ?_
  obtain ⟨t, rfl⟩ := h.2 j u (by rw [← hj, Array.getElem?_toList])
  exact ⟨t, rfl⟩
theorem rgV3_rep {D : Dm} {G : Hp} (c : Int) : ∀ (n : Nat) (i : Int), RepVs D G (rangeI i c n) (rgV3 i c n)
  | 0, i => rfl
  | n + 1, i => by
    have e : rgV3 i c (n + 1) = .int i :: rgV3 (i + c) c n := by
      unfold rgV3
      rw [List.range_succ_eq_map, List.map_cons, List.map_map]
      congr 1
      · simp
      · refine List.map_congr_left fun t _ => ?_
        show V.int (i + ((t + 1 : Nat) : Int) * c) = V.int (i + c + (t : Int) * c)
        congr 1
        rw [Int.natCast_add, Int.add_mul]
        simp
        omega
    rw [e]
    exact ⟨_, _, rfl, rfl, rgV3_rep c n (i + c)⟩
section
variable {X : Cx} {a b c : Expr} {ta : TA} {p1 p2 p3 pos : Pos}
def tLstRg3 (ta : TA) : TE := fun σ H Q => ta σ H fun vs H1 => ∃ i j k n, vs = [.int i, .int j, .int k] ∧ RgC i j k n ∧ n ≤ 2 ^ 24 ∧ ∀ q, H1 q = none → Q (.ref q) (upd H1 q (.lst (rgV3 i k n)))
theorem pe_lstRg3 (hcm : X.calm = true) (hg : Gl X "list") (hm : X.mg "list" = none) (hg2 : Gl X "range") (hm2 : X.mg "range" = none) (ha : PA X [a, b, c] ta)
    (hs : starEach [a, b, c] X.env = (false, eval a X.env) :: starEach [b, c] X.env) (hpl : (backTo p2 (starEach [b, c] X.env)).any (·.1) = false) (na : starEach [.Call (.Name "range" p1) [a, b, c] [] p2] X.env = (false, eval (.Call (.Name "range" p1) [a, b, c] [] p2) X.env) :: starEach [] X.env := by rfl) :
    PE X (.Call (.Name "list" p3) [.Call (.Name "range" p1) [a, b, c] [] p2] [] pos) (tLstRg3 ta) := by
  refine ⟨fun pins s σ H Q I h => ?_⟩
  have hr : wpAny (model X.prog X.w) X.A (eval (.Call (.Name "range" p1) [a, b, c] [] p2) X.env) (fun x s' => ∃ r i j k t u v n H', x = .ref r ∧ IsRange s'.heap r i j k t u v ∧ Inv X pins σ H' s' ∧ RgC i j k n ∧ n ≤ 2 ^ 24 ∧ ∀ q, H' q = none → Q (.ref q) (upd H' q (.lst (rgV3 i k n)))) X.xe s := by
    refine Call_ (ld_blt I hg2 hm2 boot_range (PyProof.Rows.callWith_type1 (thn (ha.run p2 pins s σ H _ I h) fun us s1 ⟨vs, H1, I1, r1, q1⟩ => ?_) hs hpl))
    obtain ⟨i, j, k, n, e, rc, hn, q⟩ := q1
    obtain ⟨c0, c1, c2, c3⟩ := rc
    subst e
    cases r1 with
    | cons r rr =>
      cases rr with
      | cons r' rr =>
        cases rr with
        | cons r'' rr =>
          cases rr
          obtain ⟨t, rfl⟩ := r
          obtain ⟨t', rfl⟩ := r'
          obtain ⟨t'', rfl⟩ := r''
          refine call_range_3 c0 ?_ (.inl (PyProof.noPylong_small c1))
          exact ⟨_, i, j, k, _, _, _, n, H1, rfl, IsRange.new .., I1.kept (t' := s1.toks) fun b o e => Heap.get?_push_of_some _ e, ⟨c0, c1, c2, c3⟩, hn, q⟩
  refine Call_ (ld_blt I hg hm boot_list (PyProof.Rows.callWith_type1 (args_cons (thn hr fun x s1 ⟨r, i, j, k, t, u, v, n, H1, ex, hrg, I1, rc, hn, q⟩ => args_nil ?_) na) na))
  subst ex
  obtain ⟨c0, c1, c2, c3⟩ := rc
  refine call_list_range (n := n) (I1.ok.hd hcm) hrg c2 c3 hn fun h' tk acc c' hk e' hi => ?_
  refine ⟨.ref s1.heap.objs.size, upd H1 s1.heap.objs.size (.lst (rgV3 i k n)), I1.laid hk (Nat.le_refl _) (show ObjOk X.prog X.w _ _ _ (.lst (rgV3 i k n)) from ⟨?_, acc.toList, c', vals_rg3 hi, ?_⟩), rfl, q _ (I1.hok.fresh (Nat.le_refl _))⟩
  · unfold rgV3
    rw [List.length_map, List.length_range, sizeLine_eq]
    exact hn
  · rw [Array.toArray_toList]; exact e'
end
section
variable {D : Dm} {X : Cx} {C : Calls} {W : WX} {ms M1 M2 : List Nat} {dl1 dl2 : Dl} {a b : CE} {ea eb ec : Expr} {p1 p2 p3 pos : Pos}
theorem s_lrg3 {nl nr : Str} {k : Int} {cc : CE} (hc : X.calm = true) (hnl : nl = "list") (hnr : nr = "range") (hg : Gl X nl) (hm : X.mg nl = none) (hg2 : Gl X nr) (hm2 : X.mg nr = none) (ha : SE D X C W ms M1 dl1 a ea) (hb : SE D X C W ms M2 dl2 b eb) (hcc : SE D X C W ms [] .sh cc ec) (hk : ∀ env, evE C cc env = .ok (.int k) env) (h1 : opOk dl1 M2 = true) (h2 : opOk dl2 [] = true)
    (hst : starEach [ea, eb, ec] X.env = (false, eval ea X.env) :: starEach [eb, ec] X.env) (hst2 : ((backTo p2 (starEach [eb, ec] X.env)).any fun x => x.fst) = false) (hst3 : starEach [eb, ec] X.env = (false, eval eb X.env) :: starEach [ec] X.env) (hst4 : starEach [ec] X.env = (false, eval ec X.env) :: starEach [] X.env) :
    SE D X C W ms (M1 ++ M2) (.own 1) (.lrg (.r3 a b k)) (.Call (.Name nl p3) [.Call (.Name nr p1) [ea, eb, ec] [] p2] [] pos) := by
  subst hnl hnr
  refine PE.imp (pe_lstRg3 hc hg hm hg2 hm2 (pa_cons ha (pa_cons hb (pa_cons hcc pa_nil hst4) hst3) hst) hst hst2) fun σ H Q ⟨env, G, Fp, R, h⟩ => ?_
  have h : PoA D W ms σ (M1 ++ M2) (Dlv D ms σ (.own 1)) ⟨env, H, G, Fp⟩ (((evE C a env).bind fun v e1 => (evE C b e1).bind fun u e2 => match v, u with
    | .int i, .int j => if (inR i ∧ inR j) ∧ k ≠ 0 ∧ -1000000 < k ∧ k < 1000000 then .ok (rangeI i k (rcount i j k)) e2 else .st
    | _, _ => .st).bind fun xs e1 => if xs.length ≤ SZ then .ok (.lst xs) e1 else .st) Q := h
  rw [Ev.R.bind_assoc] at h
  refine PoA.next (s1 := ⟨env, H, G, Fp⟩) (ev := evE C a) (del0 := fun σ => Dlv D ms σ dl1) h R Ext.refl memL fun x vx s1 R1 E1 E1' d1 h1' => ?_
  rw [Ev.R.bind_assoc] at h1'
  refine PoA.next (ev := evE C b) (del0 := fun σ => Dlv D ms σ dl2) h1' R1 E1' memR fun y vy s2 R2 E2 E2' d2 h2' => ?_
  cases x <;> first | exact h2'.elim | skip
  cases y <;> first | exact h2'.elim | skip
  rename_i i j
  have := (d1.held h1 E2 R2).int
  subst this
  have := (d2.here h2 R2).int
  subst this
  dsimp only at h2'
  by_cases hr : (inR i ∧ inR j) ∧ k ≠ 0 ∧ -1000000 < k ∧ k < 1000000
  · rw [if_pos hr] at h2'
    have h2' : PoA D W ms σ (M1 ++ M2) (Dlv D ms σ (.own 1)) ⟨env, H, G, Fp⟩ (if (rangeI i k (rcount i j k)).length ≤ SZ then Ev.R.ok (PV.lst (rangeI i k (rcount i j k))) s2.env else .st) Q := h2'
    by_cases hz : (rangeI i k (rcount i j k)).length ≤ SZ
    · rw [if_pos hz] at h2'
      rw [rangeI_len] at hz
      refine Rd.of_ok (s := s2) (e' := s2.env) R2 (hk s2.env) fun w H3 G3 Fp3 R3 E3 dw => ?_
      have ew : w = .int k := dw
      subst ew
      refine ⟨i, j, k, _, rfl, rgC_of i j k hr.1 hr.2.1 hr.2.2.1 hr.2.2.2, hz, fun q hq => ?_⟩
      exact fin_made (f := true) (s1 := ⟨s2.env, H3, G3, Fp3⟩) R3 (Ext.trans2 E2' E3 (fun _ q => q) (fun _ q => nomatch q)) (Made.lst hq (rgV3_rep k (rcount i j k) i)) h2'
    · rw [if_neg hz] at h2'; exact h2'.elim
  · rw [if_neg hr] at h2'
    exact h2'.elim
end
end Ev

/-! Ev26: a displayed dict read at once; min, max of three; bit_length. -/
namespace Ev
open PySem PySem.Spec PyProof.Rows L2
/-! ### {..}[x] -/
def dsE (kvs : List (List Nat × Int)) : List (TE × TE) := kvs.map fun p => (tC (.str (S p.1)), tC (.int p.2))
theorem tPairs_c {σ : L2.St} {H : Hp} : ∀ (kvs : List (List Nat × Int)) (Q : List (V × V) → Hp → Prop), Q (kvs.map fun p => (V.str (S p.1), V.int p.2)) H → tPairs (dsE kvs) σ H Q
  | [], Q, h => h
  | p :: r, Q, h => tPairs_c r (fun ps H3 => Q ((V.str (S p.1), V.int p.2) :: ps) H3) h
theorem mergeK_val (k : L2.Key) : ∀ (l acc : List (L2.Key × V)), valV (mergeK acc l) k = l.foldl (fun a p => if k = p.1 then some p.2 else a) (valV acc k)
  | [], acc => rfl
  | p :: r, acc => by
    show valV (mergeK (putK acc p.1 p.2) r) k = _
    rw [mergeK_val k r, valV_put]
    rfl
theorem S_inj2 {a b : List Nat} (h : S a = S b) : a = b := by
  have := congrArg (fun z : Str => z.cps.toList) h
  simpa [S] using this
theorem dsel_fold (s : List Nat) : ∀ (kvs : List (List Nat × Int)) (a : Option Int),
    (kvs.map fun p => ((.inr (S p.1) : L2.Key), V.int p.2)).foldl (fun a p => if (.inr (S s) : L2.Key) = p.1 then some p.2 else a) (a.map V.int) = (kvs.foldl (fun a p => if s = p.1 then some p.2 else a) a).map V.int
  | [], a => rfl
  | p :: r, a => by
    rw [List.map_cons, List.foldl_cons, List.foldl_cons, ← dsel_fold s r]
    congr 1
    by_cases h : s = p.1
    · subst h
      rw [if_pos rfl, if_pos rfl]
      rfl
    · rw [if_neg h, if_neg fun e => h (S_inj2 (Sum.inr.inj e))]
/-! ### min of four -/
section
variable {prog : Program} {w : World} {A : Around} {E : Value → Shared → Prop} {s : Shared}
theorem args_min4 (a b c d : Value) : argsOk "min" ⟨[a, b, c, d], []⟩ := by unfold argsOk; kernel_rfl
theorem call_min_four {a b c d : Value} {Q : Value → Shared → Prop}
    (h : wpAny (model prog w) A.in1 (pyIter (.ref s.heap.objs.size)) (fun it s₂ => ∃ I fp wr n P St bt, it = .ref I ∧ Walks prog w A.in1 I fp wr n P St ∧ St 0 s₂.heap ∧ (∀ b ∈ fp, b < s₂.heap.objs.size) ∧ 0 < n ∧ CmpOf prog w A.in1 .Lt P bt ∧
      ∀ v h' tk, P (argBest bt (n - 1)) v → (∀ b o, b ∉ wr → s₂.heap.get? b = some o → h'.get? b = some o) → Q v { s₂ with heap := h', toks := tk }) E
      { s with heap := s.heap.push { cls := .type "tuple", data := .seq #[a, b, c, d] } }) :
    wpAny (model prog w) A (call (.builtin "min") [a, b, c, d]) Q E s := by
  have hname : (toString "min" ++ toString ".loop" : String) = "min.loop" := by decide
  refine call_function_tree F.kind_min F.plain_min F.entry_min (args_min4 _ _ _ _) ?_
  show wpAny _ A.in1 (Builtin.Builtins.bindParams "min" ["key", "default"] 0 ⟨[], []⟩ >>= _) _ _ s
  refine wpAny_bind (wpAny_of_eq (show Builtin.Builtins.bindParams "min" ["key", "default"] 0 ⟨[], []⟩ = pure [none, none] from rfl) ?_)
  show wpAny _ A.in1 (newTuple [a, b, c, d] >>= _) _ _ s
  refine wpAny_bind (wpAny_newObj_type ?_)
  refine wpAny_bind (wpAny_mono h (fun it s₂ h₂ => ?_) fun _ _ e => e)
  obtain ⟨I, fp, wr, n, P, St, bt, rfl, W, hst, hfp, hn, hcmp, hQ⟩ := h₂
  refine wpAny_bind (wpAny_newObj_type ?_)
  have hSf : s₂.heap.objs.size ∉ fp := fun hm => Nat.lt_irrefl _ (hfp _ hm)
  rw [hname]
  refine wpAny_pure ⟨plainId_quiet F.plain_min_loop _, codeAny_min_loop_first W bt hcmp s₂.heap.objs.size hSf hn (W.frame _ _ _ hst fun b _ o e => Heap.get?_push_of_some _ e) (Heap.get?_push_size _ rfl) fun v h' tk hP hk => ?_⟩
  exact hQ v h' tk hP fun b o hbw e => hk b o hbw (Nat.ne_of_lt (Heap.lt_size e)) (Heap.get?_push_of_some _ e)
theorem min4_num {Q : Value → Shared → Prop} {a b c d : Value} (hh : A.handled = none) (ha : Flt.NumV a) (hb : Flt.NumV b) (hc : Flt.NumV c) (hd : Flt.NumV d)
    (h : ∀ h' tk, (∀ d o, s.heap.get? d = some o → h'.get? d = some o) →
      Q (if Flt.ltV d (if Flt.ltV c (if Flt.ltV b a = true then b else a) = true then c else (if Flt.ltV b a = true then b else a)) = true then d else (if Flt.ltV c (if Flt.ltV b a = true then b else a) = true then c else (if Flt.ltV b a = true then b else a))) { s with heap := h', toks := tk }) :
    wpAny (model prog w) A (call (.builtin "min") [a, b, c, d]) Q E s := by
  have hT : (s.heap.push { cls := .type "tuple", data := .seq #[a, b, c, d] }).IsTuple s.heap.objs.size #[a, b, c, d] := ⟨_, Heap.get?_push_size _ rfl, rfl, 0, rfl⟩
  refine call_min_four (wpAny_pyIter_tuple hT ?_)
  have hsz : (s.heap.push { cls := .type "tuple", data := .seq #[a, b, c, d] }).objs.size = s.heap.objs.size + 1 := Heap.size_push ..
  refine ⟨_, [_, s.heap.objs.size], [_], _, _, _, _, rfl, Walks.tuple (A := A.in1) hh _ s.heap.objs.size (by rw [hsz]; exact Nat.ne_of_lt (Nat.lt_succ_self _)) #[a, b, c, d],
    ⟨⟨_, Heap.get?_push_size _ rfl, rfl, rfl⟩, hT.push _⟩, fun d hd => ?_, by simp, Flt.cmpOf_lt #[a, b, c, d] (by simp [ha, hb, hc, hd]), fun v h' tk hP hk => ?_⟩
  · show d < ((s.heap.push _).push _).objs.size
    rw [Heap.size_push, hsz]
    rcases List.mem_cons.mp hd with rfl | hd
    · rw [hsz]; exact Nat.lt_succ_self _
    · rcases List.mem_cons.mp hd with rfl | hd
      · exact Nat.lt_succ_of_lt (Nat.lt_succ_self _)
      · cases hd
  · have hold : ∀ d o, s.heap.get? d = some o → h'.get? d = some o := fun d o e => by
      refine hk d o (fun hm => ?_) (Heap.get?_push_of_some _ (Heap.get?_push_of_some _ e))
      rcases List.mem_cons.mp hm with e1 | hm
      · have := Heap.lt_size e; rw [e1, hsz] at this; exact Nat.lt_irrefl _ (Nat.lt_of_succ_lt this)
      · cases hm
    have := h h' tk hold
    have hv : (if Flt.ltV d (if Flt.ltV c (if Flt.ltV b a = true then b else a) = true then c else (if Flt.ltV b a = true then b else a)) = true then d else (if Flt.ltV c (if Flt.ltV b a = true then b else a) = true then c else (if Flt.ltV b a = true then b else a))) = v := by
      cases h1 : Flt.ltV b a
      · cases h2 : Flt.ltV c a
        · cases h3 : Flt.ltV d a <;> simp [argBest, h1, h2, h3] at hP <;> simp [h2, h3] <;> exact hP
        · cases h3 : Flt.ltV d c <;> simp [argBest, h1, h2, h3] at hP <;> simp [h2, h3] <;> exact hP
      · cases h2 : Flt.ltV c b
        · cases h3 : Flt.ltV d b <;> simp [argBest, h1, h2, h3] at hP <;> simp [h2, h3] <;> exact hP
        · cases h3 : Flt.ltV d c <;> simp [argBest, h1, h2, h3] at hP <;> simp [h2, h3] <;> exact hP
    rw [hv] at this
    exact this
theorem call_min4 {X : Cx} (hc : X.calm = true) : CallR X (.builtin "min") (fun xs H Q => ∃ i j k l : Int, xs = [.int i, .int j, .int k, .int l] ∧ Q (.int (if l < (if k < (if j < i then j else i) then k else (if j < i then j else i)) then l else (if k < (if j < i then j else i) then k else (if j < i then j else i)))) H) := by
  intro pins s σ H xs us Q I r h
  obtain ⟨i, j, k, l, rfl, q⟩ := h
  cases r with
  | cons r1 r =>
    cases r with
    | cons r2 r =>
      cases r with
      | cons r3 r =>
        cases r with
        | cons r4 r =>
          cases r
          obtain ⟨t1, rfl⟩ := r1
          obtain ⟨t2, rfl⟩ := r2
          obtain ⟨t3, rfl⟩ := r3
          obtain ⟨t4, rfl⟩ := r4
          have nv : ∀ (i : Int) (t : Tok), Flt.NumV (.int i t) := fun i t => (lt_nu (x := .int i) (y := .int i) (u := .int i t) (v := .int i t) ⟨t, rfl⟩ ⟨t, rfl⟩ (c := decide (i < i)) rfl).1
          refine min4_num (I.ok.hd hc) (nv _ _) (nv _ _) (nv _ _) (nv _ _) fun h' tk kk => ⟨_, H, I.kept kk, ?_, q⟩
          by_cases h1 : j < i
          · by_cases h2 : k < j
            · by_cases h3 : l < k
              · exact ⟨t4, by simp [Flt.ltV, h1, h2, h3]⟩
              · exact ⟨t3, by simp [Flt.ltV, h1, h2, h3]⟩
            · by_cases h3 : l < j
              · exact ⟨t4, by simp [Flt.ltV, h1, h2, h3]⟩
              · exact ⟨t2, by simp [Flt.ltV, h1, h2, h3]⟩
          · by_cases h2 : k < i
            · by_cases h3 : l < k
              · exact ⟨t4, by simp [Flt.ltV, h1, h2, h3]⟩
              · exact ⟨t3, by simp [Flt.ltV, h1, h2, h3]⟩
            · by_cases h3 : l < i
              · exact ⟨t4, by simp [Flt.ltV, h1, h2, h3]⟩
              · exact ⟨t1, by simp [Flt.ltV, h1, h2, h3]⟩
end
section
variable {D : Dm} {X : Cx} {C : Calls} {W : WX} {ms M M1 M2 M3 : List Nat} {dl dl1 dl2 dl3 : Dl} {a b c : CE} {ea eb ec : Expr} {p1 p2 p3 pos : Pos}
theorem s_dsel {kvs : List (List Nat × Int)} {keys : List (Option Expr)} {values : List Expr} (hu : X.A.units + 65 < cLine) (hp : PPs X p1 keys values (dsE kvs)) (hall : keys.all (·.isSome) = true) (hl : keys.length = values.length) (h0 : keys ≠ [])
    (h15 : keys.length ≤ 15) (hk : kvs.length ≤ 15) (hs : NoSl eb) (hb : SE D X C W ms M dl b eb) (hop : opOk dl [] = true) : SE D X C W ms M .sh (.dsel kvs b) (.Subscript (.Dict keys values p1) eb pos) := by
  refine PE.imp (pe_dget (by omega) (pe_disp hp hall hl h0 h15) hb hs) fun σ H Q ⟨env, G, Fp, R, h⟩ => ?_
  intro p hp
  refine tPairs_c kvs _ ⟨upd_same, kvs.map (fun p => (.inr (S p.1), V.int p.2)), by rw [List.map_map]; rfl, by rw [List.length_map]; exact hk, ?_⟩
  rw [upd_upd]
  obtain ⟨R1, E1, m1⟩ := newG (p := p) (o := .dK (mergeK [] (kvs.map fun p => (.inr (S p.1), V.int p.2)))) R (Ext.refl (M := (· ∈ M))) hp
  refine PoA.next (ev := evE C b) (s1 := ⟨env, upd H p (.dK (mergeK [] (kvs.map fun p => (.inr (S p.1), V.int p.2)))), upd G p (.dK (mergeK [] (kvs.map fun p => (.inr (S p.1), V.int p.2)))), Fp⟩) (del0 := fun σ => Dlv D ms σ dl) h R1 E1 (fun _ h => h) fun y vy s2 R2 E2 E2' d2 h2' => ?_
  obtain ⟨r, hr, k⟩ := PoA.of h2'
  have dy := d2.here hop R2
  cases y <;> simp [dselV] at hr
  rename_i s
  obtain ⟨i, hi, rfl⟩ := hr
  obtain ⟨_, rfl⟩ := dy.str
  have hG : s2.G p = some (.dK (mergeK [] (kvs.map fun p => (.inr (S p.1), V.int p.2)))) := E2.mono _ _ upd_same
  refine ⟨p, .int i, rfl, .inl ⟨_, .inr (S s), .inl (R2.sub _ _ hG), rfl, ?_⟩, k _ _ _ _ R2 E2' (show RepV D s2.G (.int i) (.int i) from rfl)⟩
  have := dsel_fold s kvs none
  rw [hi] at this
  rw [mergeK_val]
  exact this.symm
/-! ### x.bit_length() -/
theorem natBits_log : ∀ (f n : Nat), n < 2 ^ f → natBits f n = if n = 0 then 0 else n.log2 + 1
  | 0, n, h => by
    have : n = 0 := by simpa using h
    subst this
    rfl
  | f + 1, n, h => by
    unfold natBits
    by_cases z : n = 0
    · rw [if_pos z, if_pos z]
    · rw [if_neg z, if_neg z, natBits_log f (n / 2) (by rw [Nat.pow_succ] at h; omega)]
      congr 1
      rw [Nat.log2_def n]
      by_cases q : 2 ≤ n
      · rw [if_pos q, if_neg (by omega)]
      · rw [if_neg q, if_pos (by omega)]
theorem s_bits {nm : Str} (hn : nm = "bit_length") {apos : Pos} (ha : SE D X C W ms M dl a ea) (h1 : opOk dl [] = true) (hbase : attributeBase ea nm X.env (eval ea X.env) = eval ea X.env) (hline : (apos.endLine == pos.line) = true) : SE D X C W ms M .sh (.m0 .bitlen a) (.Call (.Attribute ea nm apos) [] [] pos) := by
  subst hn
  refine PE.imp (pe_bits ha hbase hline) fun σ H Q ⟨env, G, Fp, R, h⟩ => ?_
  refine PoA.next (s1 := ⟨env, H, G, Fp⟩) (del0 := fun σ => Dlv D ms σ dl) h R Ext.refl (fun _ h => h) fun x vx s1 R1 E1 E1' d1 h1' => ?_
  obtain ⟨r, hr, k⟩ := PoA.of h1'
  have dx := d1.here h1 R1
  cases x <;> simp [m0] at hr
  rename_i i
  obtain ⟨hz, rfl⟩ := grd_some hr
  have := dx.int
  subst this
  refine ⟨i, rfl, ?_⟩
  have e : Builtin.Int.intBits i = natBits 4000 i.natAbs := by
    rw [natBits_log _ _ hz]
    unfold Builtin.Int.intBits
    by_cases q : i = 0
    · subst q; rfl
    · have q1 : (i == 0) = false := by simpa using q
      have q2 : ¬ i.natAbs = 0 := by omega
      rw [q1, if_neg q2]
      rfl
  rw [e]
  exact k _ _ _ _ R1 E1' (show RepV D s1.G (.int _) (.int _) from rfl)
/-! ### min of three -/
theorem s_min3 (hc : X.calm = true) {nm : Str} (hn : nm = "min") {p : Pos} (hg : Gl X nm) (hm : X.mg nm = none) (ha : SE D X C W ms M1 dl1 a ea) (hb : SE D X C W ms M2 dl2 b eb) (hcc : SE D X C W ms M3 dl3 c ec) (h1 : opOk dl1 (M2 ++ M3) = true) (h2 : opOk dl2 M3 = true) (h3 : opOk dl3 [] = true)
    (hst : starEach [ea, eb, ec] X.env = (false, eval ea X.env) :: starEach [eb, ec] X.env) (hst2 : starEach [eb, ec] X.env = (false, eval eb X.env) :: starEach [ec] X.env) (hst3 : starEach [ec] X.env = (false, eval ec X.env) :: starEach [] X.env)
    (hb3 : ((backTo pos (starEach [eb, ec] X.env)).any fun x => x.fst) = false) : SE D X C W ms (M1 ++ (M2 ++ M3)) .sh (.b2 .min (.b2 .min a b) c) (.Call (.Name nm p) [ea, eb, ec] [] pos) := by
  subst hn
  refine PE.imp (pe_callB (call_min3Nu hc) hg hm (b2_boot .min) (pa_cons ha (pa_cons hb (pa_cons hcc pa_nil hst3) hst2) hst) (by decide +kernel) (by decide +kernel) hst hb3) fun σ H Q ⟨env, G, Fp, R, h⟩ => ?_
  have h : PoA D W ms σ (M1 ++ (M2 ++ M3)) (Dlv D ms σ .sh) ⟨env, H, G, Fp⟩ (((evE C a env).bind fun x e1 => (evE C b e1).bind fun y e2 => Ev.R.of (b2 .min x y) e2).bind fun x e1 => (evE C c e1).bind fun y e2 => Ev.R.of (b2 .min x y) e2) Q := h
  rw [Ev.R.bind_assoc] at h
  refine PoA.next (s1 := ⟨env, H, G, Fp⟩) (ev := evE C a) (del0 := fun σ => Dlv D ms σ dl1) h R Ext.refl memL fun x vx s1 R1 E1 E1' d1 h1' => ?_
  rw [Ev.R.bind_assoc] at h1'
  refine PoA.next (ev := evE C b) (del0 := fun σ => Dlv D ms σ dl2) (M2 := M2) h1' R1 E1' (fun i q => memR i (memL i q)) fun y vy s2 R2 E2 E2' d2 h2' => ?_
  cases x <;> first | exact h2'.elim | skip
  cases y <;> first | exact h2'.elim | skip
  rename_i i j
  have h2' : PoA D W ms σ (M1 ++ (M2 ++ M3)) (Dlv D ms σ .sh) ⟨env, H, G, Fp⟩ ((evE C c s2.env).bind fun y e2 => Ev.R.of (b2 .min (.int (if j < i then j else i)) y) e2) Q := h2'
  refine PoA.next (ev := evE C c) (del0 := fun σ => Dlv D ms σ dl3) (M2 := M3) h2' R2 E2' (fun i q => memR i (memR i q)) fun z vz s3 R3 E3 E3' d3 h3' => ?_
  cases z <;> first | exact h3'.elim | skip
  rename_i k
  have := (d1.held h1 (Ext.trans2 E2 E3 memL memR) R3).int
  subst this
  have := (d2.held h2 E3 R3).int
  subst this
  have := (d3.here h3 R3).int
  subst this
  have h3' : PoA D W ms σ (M1 ++ (M2 ++ M3)) (Dlv D ms σ .sh) ⟨env, H, G, Fp⟩ (Ev.R.ok (.int (if k < (if j < i then j else i) then k else (if j < i then j else i))) s3.env) Q := h3'
  refine ⟨.int i, .int j, .int k, .int (if k < (if j < i then j else i) then k else (if j < i then j else i)), rfl, ?_, h3' _ _ _ _ R3 E3' (show RepV D s3.G (.int _) (.int _) from rfl)⟩
  show ((nuMin2 (.int i) (.int j)).bind fun m => nuMin2 m (.int k)) = _
  have e : ∀ i j : Int, nuMin2 (.int i) (.int j) = some (.int (if j < i then j else i)) := fun i j => by
    show some (if decide (j < i) = true then V.int j else V.int i) = _
    by_cases q : j < i
    · rw [if_pos q, decide_eq_true q, if_pos rfl]
    · rw [if_neg q, decide_eq_false q]; rfl
  rw [e]
  exact e _ k
theorem s_min4 {M4 : List Nat} {dl4 : Dl} {d : CE} {ed : Expr} (hc : X.calm = true) {nm : Str} (hn : nm = "min") {p : Pos} (hg : Gl X nm) (hm : X.mg nm = none) (ha : SE D X C W ms M1 dl1 a ea) (hb : SE D X C W ms M2 dl2 b eb) (hcc : SE D X C W ms M3 dl3 c ec) (hd : SE D X C W ms M4 dl4 d ed) (h1 : opOk dl1 (M2 ++ (M3 ++ M4)) = true) (h2 : opOk dl2 (M3 ++ M4) = true) (h3 : opOk dl3 M4 = true) (h4 : opOk dl4 [] = true)
    (hst : starEach [ea, eb, ec, ed] X.env = (false, eval ea X.env) :: starEach [eb, ec, ed] X.env) (hst2 : starEach [eb, ec, ed] X.env = (false, eval eb X.env) :: starEach [ec, ed] X.env) (hst3 : starEach [ec, ed] X.env = (false, eval ec X.env) :: starEach [ed] X.env) (hst4 : starEach [ed] X.env = (false, eval ed X.env) :: starEach [] X.env)
    (hb3 : ((backTo pos (starEach [eb, ec, ed] X.env)).any fun x => x.fst) = false) : SE D X C W ms (M1 ++ (M2 ++ (M3 ++ M4))) .sh (.b2 .min (.b2 .min (.b2 .min a b) c) d) (.Call (.Name nm p) [ea, eb, ec, ed] [] pos) := by
  subst hn
  refine PE.imp (pe_callB (call_min4 hc) hg hm (b2_boot .min) (pa_cons ha (pa_cons hb (pa_cons hcc (pa_cons hd pa_nil hst4) hst3) hst2) hst) (by decide +kernel) (by decide +kernel) hst hb3) fun σ H Q ⟨env, G, Fp, R, h⟩ => ?_
  have h : PoA D W ms σ (M1 ++ (M2 ++ (M3 ++ M4))) (Dlv D ms σ .sh) ⟨env, H, G, Fp⟩ ((((evE C a env).bind fun x e1 => (evE C b e1).bind fun y e2 => Ev.R.of (b2 .min x y) e2).bind fun x e1 => (evE C c e1).bind fun y e2 => Ev.R.of (b2 .min x y) e2).bind fun x e1 => (evE C d e1).bind fun y e2 => Ev.R.of (b2 .min x y) e2) Q := h
  rw [Ev.R.bind_assoc, Ev.R.bind_assoc] at h
  refine PoA.next (s1 := ⟨env, H, G, Fp⟩) (ev := evE C a) (del0 := fun σ => Dlv D ms σ dl1) h R Ext.refl memL fun x vx s1 R1 E1 E1' d1 h1' => ?_
  rw [Ev.R.bind_assoc] at h1'
  refine PoA.next (ev := evE C b) (del0 := fun σ => Dlv D ms σ dl2) (M2 := M2) h1' R1 E1' (fun i q => memR i (memL i q)) fun y vy s2 R2 E2 E2' d2 h2' => ?_
  cases x <;> first | exact h2'.elim | skip
  cases y <;> first | exact h2'.elim | skip
  rename_i i j
  have h2' : PoA D W ms σ (M1 ++ (M2 ++ (M3 ++ M4))) (Dlv D ms σ .sh) ⟨env, H, G, Fp⟩ (((evE C c s2.env).bind fun y e2 => Ev.R.of (b2 .min (.int (if j < i then j else i)) y) e2).bind fun x e1 => (evE C d e1).bind fun y e2 => Ev.R.of (b2 .min x y) e2) Q := h2'
  rw [Ev.R.bind_assoc] at h2'
  refine PoA.next (ev := evE C c) (del0 := fun σ => Dlv D ms σ dl3) (M2 := M3) h2' R2 E2' (fun i q => memR i (memR i (memL i q))) fun z vz s3 R3 E3 E3' d3 h3' => ?_
  cases z <;> first | exact h3'.elim | skip
  rename_i k
  have h3' : PoA D W ms σ (M1 ++ (M2 ++ (M3 ++ M4))) (Dlv D ms σ .sh) ⟨env, H, G, Fp⟩ ((evE C d s3.env).bind fun y e2 => Ev.R.of (b2 .min (.int (if k < (if j < i then j else i) then k else (if j < i then j else i))) y) e2) Q := h3'
  refine PoA.next (ev := evE C d) (del0 := fun σ => Dlv D ms σ dl4) (M2 := M4) h3' R3 E3' (fun i q => memR i (memR i (memR i q))) fun u vu s4 R4 E4 E4' d4 h4' => ?_
  cases u <;> first | exact h4'.elim | skip
  rename_i l
  have := (d1.held h1 (Ext.trans2 E2 (Ext.trans2 E3 E4 memL memR) memL memR) R4).int
  subst this
  have := (d2.held h2 (Ext.trans2 E3 E4 memL memR) R4).int
  subst this
  have := (d3.held h3 E4 R4).int
  subst this
  have := (d4.here h4 R4).int
  subst this
  exact ⟨i, j, k, l, rfl, h4' _ _ _ _ R4 E4' (show RepV D s4.G (.int _) (.int _) from rfl)⟩
end
end Ev

/-! Ev27: for x in reversed(a list); x[::k]. -/
namespace Ev
open PySem PySem.Spec PyProof.Rows L2
section
variable {D : Dm} {X : Cx} {C : Calls} {W : WX} {ms : List Nat} {M M1 M2 M3 : List Nat} {σ : L2.St} {s0 s1 s2 : Sta} {x y : PV} {v u : V} {dl dl1 dl2 dl3 : Dl} {a b c : CE} {ea eb ec tg : Expr} {pos p1 p2 : Pos}
theorem itOk_rev (e : D.K = X.K) {G : Hp} {xs : List PV} {a : Addr} {vs : List V} (q : LsA D.K G a vs) (r : RepVs D G xs vs) : ItOk D G xs.reverse (Itv X.K a vs.length) := fun H i s => by
  have q' : SqL X.K H a vs := e ▸ (sqL_mono s q).sq
  have hl := r.length
  refine ⟨fun hi => ?_, fun hi => ?_, fun x H' hy hi => ?_⟩
  · rw [List.length_reverse, hl] at hi
    have hj : vs.length - 1 - i < vs.length := by omega
    exact ⟨hi, vs, vs[vs.length - 1 - i], q', List.getElem?_eq_getElem hj⟩
  · rw [List.length_reverse, hl] at hi
    exact hi
  · rw [List.length_reverse] at hi
    obtain ⟨p, h1, h2⟩ := RepVs.get' r (hy.2 vs q')
    refine ⟨hy.1, p, ?_, h2⟩
    rw [List.getElem?_reverse hi, ← h1, hl]
theorem si_revd {nm : Str} (hn : nm = "reversed") (hg : Gl X nm) (hm : X.mg nm = none) (e : D.K = X.K) (ha : SE D X C W ms M .sh a ea) (hst : starEach [ea] X.env = [(false, eval ea X.env)]) : SI D X C W ms M (.of 0 (.rev a)) tg (.Call (.Name nm p1) [ea] [] pos) := by
  subst hn
  refine PI.imp (RT.pi_revA hg hm ha hst) fun σ H Q ⟨env, G, Fp, R, h⟩ => ?_
  have hb : evI C (.of 0 (.rev a)) env = (evE C a env).bind fun x e1 => (Ev.R.of (revB x) e1).bind fun v e2 => Ev.R.of (v.items 0) e2 := by
    show ((evE C a env).bind _).bind _ = _
    cases evE C a env <;> rfl
  rw [hb] at h
  refine PoA.next (s1 := ⟨env, H, G, Fp⟩) (del0 := fun σ => Dlv D ms σ .sh) h R Ext.refl (fun _ h => h) fun x vx s1 R1 E1 E1' d1 h1' => ?_
  cases x <;> first | exact h1'.elim | skip
  rename_i xs
  obtain ⟨p, vs, rfl, q, rs⟩ := d1
  exact ⟨p, vs, rfl, .inl ⟨e ▸ (sqL_mono R1.sub q).sq, h1' _ _ _ _ R1 E1' (itOk_rev e q rs)⟩⟩
/-! ### x[::k] -/
theorem filterMap_at {α β : Type} (f : α → Option β) (l : List α) (i : Nat) (h : ∀ x, x ∈ l → (f x).isSome = true) : (l.filterMap f)[i]? = (l[i]?).bind f := by
  induction l generalizing i with
  | nil => rfl
  | cons x l ih =>
    obtain ⟨y, hy⟩ := Option.isSome_iff_exists.mp (h x (by simp))
    rw [List.filterMap_cons, hy]
    cases i with
    | zero => simp [hy]
    | succ i =>
      show (l.filterMap f)[i]? = _
      rw [ih i fun z hz => h z (List.mem_cons_of_mem _ hz)]
      rfl
theorem every_some {α : Type} {xs : List α} {k : Nat} (hk : 1 ≤ k) : ∀ i, i ∈ List.range ((xs.length + k - 1) / k) → (xs[k * i]?).isSome = true := fun i hi => by
  have h1 : i < (xs.length + k - 1) / k := List.mem_range.mp hi
  have h2 : (i + 1) * k ≤ xs.length + k - 1 := (Nat.le_div_iff_mul_le hk).mp h1
  have h3 : k * i < xs.length := by
    rw [Nat.add_mul, Nat.one_mul, Nat.mul_comm] at h2
    omega
  rw [List.getElem?_eq_getElem h3]
  rfl
theorem every_rep {G : Hp} {k : Nat} (hk : 1 ≤ k) {xs : List PV} {vs : List V} (r : RepVs D G xs vs) : RepVs D G (every k xs) (every k vs) := by
  unfold every
  rw [← r.length]
  have hx := every_some (xs := xs) hk
  generalize (xs.length + k - 1) / k = n at hx
  generalize List.range n = l at hx
  induction l with
  | nil => rfl
  | cons i l ih =>
    have h1 := hx i (by simp)
    obtain ⟨p, hp⟩ := Option.isSome_iff_exists.mp h1
    obtain ⟨w, h2, h3⟩ := r.get hp
    rw [List.filterMap_cons, hp, List.filterMap_cons, h2]
    exact ⟨_, _, rfl, h3, ih fun j hj => hx j (List.mem_cons_of_mem _ hj)⟩
theorem every_len {α : Type} {xs : List α} {k : Nat} (hk : 1 ≤ k) : (every k xs).length ≤ xs.length := by
  unfold every
  refine Nat.le_trans (List.length_filterMap_le _ _) ?_
  rw [List.length_range]
  cases xs with
  | nil =>
    rw [List.length_nil, Nat.zero_add, Nat.div_eq_of_lt (by omega)]
    exact Nat.le_refl _
  | cons a r =>
    refine Nat.div_le_of_le_mul ?_
    rw [List.length_cons, Nat.mul_add, Nat.mul_one]
    obtain ⟨j, rfl⟩ : ∃ j, k = j + 1 := ⟨k - 1, by omega⟩
    rw [Nat.add_mul, Nat.one_mul]
    omega
theorem every_mem {α : Type} {xs : List α} {k : Nat} {a : α} (h : a ∈ every k xs) : a ∈ xs := by
  unfold every at h
  obtain ⟨i, _, hi⟩ := List.mem_filterMap.mp h
  exact List.mem_of_getElem? hi
theorem range_stp {n : Nat} {i : Int} (h : 1 ≤ i) : sliceRange 0 (n : Int) i = (List.range ((n + i.toNat - 1) / i.toNat)).map fun k => i.toNat * k := by
  obtain ⟨k, rfl⟩ : ∃ k : Nat, i = (k : Int) := ⟨i.toNat, by omega⟩
  rw [Int.toNat_natCast]
  unfold sliceRange
  have hk : (k : Int) > 0 := by omega
  rw [if_pos hk]
  have hc : (if (0 : Int) < (n : Int) then ((n : Int) - 0 + (k : Int) - 1) / (k : Int) else 0).toNat = (n + k - 1) / k := by
    by_cases h0 : (0 : Int) < (n : Int)
    · rw [if_pos h0, show (n : Int) - 0 + (k : Int) - 1 = ((n + k - 1 : Nat) : Int) by omega, ← Int.natCast_ediv, Int.toNat_natCast]
    · rw [if_neg h0]
      have : n = 0 := by omega
      subst this
      rw [Nat.zero_add, Nat.div_eq_of_lt (by omega)]
      rfl
  dsimp only
  rw [hc]
  apply List.map_congr_left
  intro j _
  show ((0 : Int) + (k : Int) * (j : Int)).toNat = _
  rw [Int.zero_add, ← Int.natCast_mul, Int.toNat_natCast]
theorem pick_stp (items : Array Value) {i : Int} (h : 1 ≤ i) : slicePick items none none (some i) = (every i.toNat items.toList).toArray := by
  unfold slicePick
  have hb : sliceBounds none none (some i) items.size = (0, (items.size : Int), i) := by
    unfold sliceBounds
    have : (some i).getD 1 > 0 := by show i > 0; omega
    simp only [Option.getD_some]
    rw [if_pos (by omega), if_pos (by omega)]
  rw [hb]
  show ((sliceRange 0 (items.size : Int) i).filterMap (items[·]?)).toArray = _
  rw [range_stp h, List.filterMap_map]
  unfold every
  congr 1
  rw [Array.length_toList]
  congr 1
  funext j
  show items[i.toNat * j]? = items.toList[i.toNat * j]?
  rw [Array.getElem?_toList]
def tStp (K : PySem.W.Frag) (te : TE) (to : TO) : TE := fun σ H Q => te σ H fun x H1 => to σ H1 fun o H2 => ∃ i : Int, o = some i ∧ 1 ≤ i ∧ ((∃ a xs, x = .ref a ∧ SqL K H2 a xs ∧ ∀ p, H2 p = none → Q (.ref p) (upd H2 p (.lst (every i.toNat xs)))) ∨ ∃ l : List Nat, okS l ∧ x = .str (S l) ∧ Q (.str (S (every i.toNat l))) H2)
theorem vals_every {k : Nat} {xs : List V} {us : List Value} (hk : 1 ≤ k) (r : Vals xs us) : Vals (every k xs) (every k us) := by
  unfold every
  rw [← r.length]
  have hx := every_some (xs := xs) hk
  generalize (xs.length + k - 1) / k = n at hx
  generalize List.range n = l at hx
  induction l with
  | nil => exact .nil
  | cons i l ih =>
    have h1 := hx i (by simp)
    obtain ⟨p, hp⟩ := Option.isSome_iff_exists.mp h1
    obtain ⟨w, h2, h3⟩ := r.get hp
    rw [List.filterMap_cons, hp, List.filterMap_cons, h2]
    exact .cons h3 (ih fun j hj => hx j (List.mem_cons_of_mem _ hj))
theorem pe_stp {e : Expr} {es : Expr} {te : TE} {to : TO} {p3 pos : Pos} (he : PE X e te) (hst : PO X (some es) to) : PE X (.Subscript e (.Slice none none (some es) p3) pos) (tStp X.K te to) := by
  refine ⟨fun pins s σ H Q I h => ?_⟩
  refine Subscript_ (thn (he.run pins s σ H _ I h) fun v s1 ⟨x, H1, I1, r1, q1⟩ => ?_)
  refine wpAny_Slice (thn (po_none.run pins s1 σ H1 (fun o H2 => o = none ∧ H2 = H1) I1 ⟨rfl, rfl⟩) fun vl s2 ⟨l, H2, I2, pl, el, e2⟩ => ?_)
  subst el e2
  refine thn (po_none.run pins s2 σ H2 (fun o H3 => o = none ∧ H3 = H2) I2 ⟨rfl, rfl⟩) fun vu s3 ⟨u, H3, I3, pu, eu, e3⟩ => ?_
  subst eu e3
  refine thn (hst.run pins s3 σ H3 _ I3 q1) fun vs s4 ⟨o, H4, I4, ps, q4⟩ => ?_
  obtain ⟨i, rfl, hi, q4⟩ := q4
  have I5 : Inv X pins σ H4 { s4 with heap := s4.heap.push { cls := .type "slice", data := .fields #[vl, vu, vs] } } := I4.kept (t' := s4.toks) fun b ob q => Heap.get?_push_of_some _ q
  have hk1 : 1 ≤ i.toNat := by omega
  rcases q4 with ⟨a, xs, ex, hx, q⟩ | ⟨l, ok, ex, q⟩
  · subst ex
    cases r1
    obtain ⟨its, r, ht, hz⟩ := I5.list hx
    have hlen := r.length
    show wpAny (model X.prog X.w) X.A (subscriptTail e (.Slice none none (some es) p3) (.ref a) (.ref s4.heap.objs.size)) (EP X pins σ Q) X.xe { s4 with heap := s4.heap.push { cls := .type "slice", data := .fields #[vl, vu, vs] } }
    refine tail_any (ops := [.ref a, .ref s4.heap.objs.size]) ht.isList.typeIs (PySem.slot_list_getitem.lookup) ?_ (by with_unfolding_all rfl)
    refine wpAny_getItem_list_slice ht.isList (Heap.IsSliceOf.new _ vl vu vs) pl pu ps (by intro z; cases z; omega) ?_ (by rw [List.size_toArray]; omega)
    rw [pick_stp _ hi]
    refine ⟨.ref _, _, I5.laid (t' := s4.toks) (o := .lst (every i.toNat xs)) (fun b ob q => Heap.get?_push_of_some _ q) (Nat.le_refl _) ?_, rfl, q _ (I5.hok.fresh (Nat.le_refl _))⟩
    exact ⟨Nat.le_trans (every_len hk1) hz, _, 0, vals_every hk1 r, Heap.get?_push_size _ rfl⟩
  · subst ex
    obtain ⟨t, rfl⟩ := r1
    cases pl
    cases pu
    obtain ⟨t2, rfl⟩ : ∃ t2, vs = .int i t2 := by cases ps; exact ⟨_, rfl⟩
    show wpAny (model X.prog X.w) X.A (subscriptTail e (.Slice none none (some es) p3) (.str (S l) t) (.ref s4.heap.objs.size)) (EP X pins σ Q) X.xe { s4 with heap := s4.heap.push { cls := .type "slice", data := .fields #[.none, .none, .int i t2] } }
    refine tail_any (ops := [.str (S l) t, .ref s4.heap.objs.size]) (typeIs_str _ _ t) slot_str_getitem.lookup ?_ (by with_unfolding_all rfl)
    have h0 : ((Option.map (fun x : Int × Tok => x.1) (some (i, t2))).getD 1 == 0) = false := by
      show (i == 0) = false
      simp; omega
    refine wpAny_getItem_str_slice (l := none) (u := none) (st := some (i, t2)) ⟨_, Heap.get?_push_size _ rfl, rfl, rfl⟩ h0 ?_
    have hp : slicePicked (S l) none none (some (i, t2)) = (List.range ((l.length + i.toNat - 1) / i.toNat)).map fun k => i.toNat * k := by
      unfold slicePicked Builtin.Str.strSliceIndices
      have hg : (Option.map (fun x : Int × Tok => x.1) (some (i, t2))).getD 1 > 0 := by show i > 0; omega
      simp only [Option.map_none]
      rw [if_pos hg, if_pos hg]
      show sliceRange 0 (((S l).length : Nat) : Int) i = _
      have hS : (S l).length = l.length := by simp [S, Str.length]
      rw [hS, range_stp hi]
    unfold sliceMade
    rw [hp]
    have e : (List.filterMap (fun x => (S l).cps[x]?) ((List.range ((l.length + i.toNat - 1) / i.toNat)).map fun k => i.toNat * k)).toArray = (every i.toNat l).toArray := by
      rw [List.filterMap_map]
      unfold every
      congr 1
      congr 1
      funext j
      show l.toArray[i.toNat * j]? = _
      rw [List.getElem?_toArray]
    by_cases hc : ((Option.map (fun x : Int × Tok => x.1) (some (i, t2))).getD 1 == 1 && ((List.range ((l.length + i.toNat - 1) / i.toNat)).map fun k => i.toNat * k).length == (S l).length) = true
    · rw [if_pos hc]
      have hi1 : i = 1 := by
        rw [Bool.and_eq_true] at hc
        exact eq_of_beq hc.1
      subst hi1
      have e1 : every (1 : Int).toNat l = l := by
        unfold every
        show (List.range ((l.length + 1 - 1) / 1)).filterMap (fun i => l[1 * i]?) = l
        rw [Nat.add_sub_cancel, Nat.div_one]
        have := PySem.W.krv_all l.toArray
        simpa using this
      rw [e1] at q
      exact ⟨.str (S l), H4, I5, ⟨t, rfl⟩, q⟩
    · rw [if_neg hc, e]
      exact ⟨by have := ok.1; have := every_len (xs := l) hk1; rw [sizeLine_eq]; simp [Str.length]; omega, .str (S (every i.toNat l)), H4, I5.tok _, ⟨_, rfl⟩, q⟩
theorem s_stp (e : D.K = X.K) {k : Option CE} {es : Expr} {q3 : Pos} (ha : SE D X C W ms M1 dl1 a ea) (hk : SO D X C W ms M2 k (some es)) (h1 : opOk dl1 M2 = true) : SE D X C W ms (M1 ++ M2) (.own 1) (.stp a k) (.Subscript ea (.Slice none none (some es) q3) pos) := by
  refine PE.imp (pe_stp ha hk) fun σ H Q ⟨env, G, Fp, R, h⟩ => ?_
  refine PoA.next (s1 := ⟨env, H, G, Fp⟩) (del0 := fun σ => Dlv D ms σ dl1) h R Ext.refl memL fun x vx s1 R1 E1 E1' d1 k1 => ?_
  refine PoA.next (ev := evO C k) (del0 := fun _ a b _ _ => a = b) k1 R1 E1' memR fun l l' s2 R2 E2 E2' d2 k2 => ?_
  subst d2
  obtain ⟨r, hr, k⟩ := PoA.of k2
  have d := d1.held h1 E2 R2
  cases l with
  | none => cases x <;> simp [stpV] at hr
  | some i =>
    cases x <;> simp [stpV, grd] at hr
    · obtain ⟨hi, rfl⟩ := hr
      obtain ⟨ok, rfl⟩ := d.str
      have hk1 : 1 ≤ i.toNat := by omega
      refine ⟨i, rfl, hi, .inr ⟨_, ok, rfl, k _ _ _ _ R2 E2' ⟨[], Tmp.flat ⟨⟨Nat.le_trans (every_len hk1) ok.1, fun c hc => ok.2 c (every_mem hc)⟩, rfl⟩ rfl, fun _ _ _ _ => List.not_mem_nil⟩⟩⟩
    · obtain ⟨hi, rfl⟩ := hr
      obtain ⟨p, vs, rfl, q, rs⟩ := d.lst R2.sub
      have hk1 : 1 ≤ i.toNat := by omega
      exact ⟨i, rfl, hi, .inl ⟨p, vs, rfl, e ▸ q.sq, fun p' hp => fin_made (f := true) R2 E2' (Made.lst hp (every_rep hk1 rs)) k⟩⟩
end
end Ev

/-! Ev28: sorted of things that are alike; text.find. -/
namespace Ev
open PySem PySem.Spec PyProof.Rows L2
open PySem.W (EachIs dataLt AllAlike Sortable)
section
variable {D : Dm} {X : Cx} {C : Calls} {W : WX} {ms : List Nat} {M M1 M2 M3 : List Nat} {σ : L2.St} {s0 s1 s2 : Sta} {x y : PV} {v u : V} {dl dl1 dl2 dl3 : Dl} {a b c : CE} {ea eb ec tg : Expr} {pos p1 p2 : Pos}
/-- a value stands for a thing -/
def RU (D : Dm) (G : Hp) (u : Value) (x : PV) : Prop := ∃ v, RepV D G x v ∧ RelV v u
theorem each_of {G : Hp} : ∀ {xs : List PV} {vs : List V} {us : List Value}, RepVs D G xs vs → Vals vs us → EachIs (RU D G) us xs
  | [], vs, us, r, rv => by
    have e : vs = [] := r
    subst e
    cases rv
    exact .nil
  | x :: xs, vs, us, r, rv => by
    obtain ⟨v, r', e, h1, h2⟩ := r
    subst e
    cases rv with
    | cons r1 r2 => exact .cons ⟨v, h1, r1⟩ (each_of h2 r2)
theorem of_each {G : Hp} {us : List Value} {xs : List PV} (h : EachIs (RU D G) us xs) : ∃ vs, RepVs D G xs vs ∧ Vals vs us := by
  induction h with
  | nil => exact ⟨[], rfl, .nil⟩
  | cons h1 _ ih =>
    obtain ⟨v, a, b⟩ := h1
    obtain ⟨vs, c, d⟩ := ih
    exact ⟨v :: vs, ⟨v, vs, rfl, a, c⟩, .cons b d⟩
theorem srt_map {xs : List PV} (h2 : ∀ x y, x ∈ xs → y ∈ xs → PV.alk x y = true) (hd : PV.deps xs ≤ 59) : xs.mergeSort (PySem.W.dataLe false toD) = xs.mergeSort leV := by
  have := List.map_mergeSort (r := PySem.W.dataLe false toD) (s := leV) (f := id) (l := xs) fun a ha b hb => by
    rw [PySem.W.dataLe_eq]
    show (!dataLt (toD b) (toD a)) = !PV.ltv b a
    rw [ltv_toD b a (by have := deps_mem hd hb; omega) (by have := deps_mem hd ha; omega) (h2 _ _ hb ha)]
  rwa [List.map_id, List.map_id] at this
theorem cr_srt (e : D.K = X.K) (hu : X.A.units + 65 < cLine) : CallR X (.builtin "sorted") (fun vs H Q => ∃ G x pa r, vs = [x] ∧ (∀ b o, G b = some o → H b = some o) ∧ RdE D G H pa x ∧ srtV pa = some r ∧ ∀ v H' G', Made D G H true r v H' G' → Q v H') := by
  intro pins s σ H vs us Q I rv h
  obtain ⟨G, x, pa, r, rfl, sub, ra, hb, q⟩ := h
  unfold srtV at hb
  split at hb
  · rename_i xs
    obtain ⟨⟨h1, h2, h3⟩, rfl⟩ := grd_some hb
    obtain ⟨a, vs, rfl, ha, r1⟩ := ra.lst sub
    obtain ⟨its, rl, hl, hz⟩ := I.list (e ▸ ha.sq)
    rw [Vals.ref1 rv]
    obtain ⟨k1, k2⟩ := alkAll_at h1
    have er : EachIs (fun v b => ∃ as, Reads s.heap v (toD b) as) its xs := by
      have hx : ∀ x, x ∈ xs → x.dep ≤ 100 := fun x hx => by have := deps_mem h2 hx; omega
      clear h1 h3 k1 k2 hz q hb h2 hl ha ra rv
      induction xs generalizing vs its with
      | nil =>
        have e : vs = [] := r1
        subst e
        cases rl
        exact .nil
      | cons x xs ih =>
        obtain ⟨v, r', e', h1, h2⟩ := r1
        subst e'
        cases rl with
        | cons l1 l2 =>
          obtain ⟨as, hr⟩ := Dp.reads I (toD x) v _ (e ▸ dp_toD (h1.mono sub) (hx x (by simp))) l1
          exact .cons ⟨as, hr⟩ (ih (vs := r') (r1 := h2) (rl := l2) (hx := fun y hy => hx y (List.mem_cons_of_mem _ hy)))
    refine PySem.W.sorted_data (R := RU D G) (enc := toD) hl.isList (each_of r1 rl) er ?_ ?_ ?_ ?_ fun out ho hout => ?_
    · intro d hd d' hd'
      obtain ⟨z, hz, rfl⟩ := List.mem_map.mp hd
      obtain ⟨z', hz', rfl⟩ := List.mem_map.mp hd'
      rw [alk_toD]
      exact k2 _ _ hz hz'
    · rw [Bool.or_eq_true, List.all_eq_true, List.all_eq_true] at h3
      rcases h3 with h3 | h3
      · refine .inl fun d hd => ?_
        obtain ⟨z, hz, rfl⟩ := List.mem_map.mp hd
        have := h3 z hz
        cases z <;> simp [PV.isTupN] at this
        rename_i l
        cases l with
        | nil => simp [PV.isTupN] at this
        | cons y l => exact ⟨toD y, toDs l, by simp [toD, toDs]⟩
      · refine .inr fun d hd => ?_
        obtain ⟨z, hz, rfl⟩ := List.mem_map.mp hd
        refine ⟨toD_non (k1 z hz), fun l => ?_⟩
        have := h3 z hz
        cases z <;> simp [PV.notTup, toD] at this ⊢
    · rw [r1.length]; exact hz
    · intro z hz
      have := depth_toD z (by have := deps_mem h2 hz; omega)
      have := deps_mem h2 hz
      omega
    · rw [srt_map k2 h2] at hout
      obtain ⟨ws, w1, w2⟩ := of_each hout
      obtain ⟨ep, he'⟩ := PyProof.Rows.sortedAll_at s.heap its out.toArray
      have hlen : ws.length ≤ sizeLine := by
        have e1 := w1.length
        rw [List.length_mergeSort] at e1
        have e2 := r1.length
        omega
      exact ⟨.ref _, upd H (s.heap.objs.size + 1) (.lst ws), I.laid (t' := s.toks) (fun _ _ => PyProof.Rows.sortedAll_old) (Nat.le_succ _) ⟨hlen, out, ep, w2, he'⟩, rfl, q _ _ _ (.lst (I.hok.fresh (Nat.le_succ _)) w1)⟩
  · cases hb
theorem s_srt (e : D.K = X.K) (hu : X.A.units + 65 < cLine) {nm : Str} (hn : nm = "sorted") {p : Pos} (hg : Gl X nm) (hm : X.mg nm = none) (ha : SE D X C W ms M dl a ea) (h1 : opOk dl [] = true) (hst : starEach [ea] X.env = (false, eval ea X.env) :: starEach [] X.env) : SE D X C W ms M (.own 1) (.srt a) (.Call (.Name nm p) [ea] [] pos) := by
  subst hn
  have key : PE X (.Call (.Name "sorted" p) [ea] [] pos) (tCB (fun vs H Q => ∃ G x pa r, vs = [x] ∧ (∀ b o, G b = some o → H b = some o) ∧ RdE D G H pa x ∧ srtV pa = some r ∧ ∀ v H' G', Made D G H true r v H' G' → Q v H') (tCons (Rd D W ms M (fun σ => Dlv D ms σ dl) (evE C a)) tNil)) :=
    pe_callB (cr_srt e hu) hg hm (b1_boot .sorted) (pa_cons ha pa_nil hst) (by decide +kernel) (by decide +kernel) hst rfl
  refine PE.imp key fun σ H Q ⟨env, G, Fp, R, h⟩ => ?_
  refine PoA.next (s1 := ⟨env, H, G, Fp⟩) (del0 := fun σ => Dlv D ms σ dl) h R Ext.refl (fun _ h => h) fun x vx s1 R1 E1 E1' d1 h1' => ?_
  obtain ⟨r, hr, k⟩ := PoA.of h1'
  exact ⟨s1.G, vx, x, r, rfl, R1.sub, d1.here h1 R1, hr, fun v H' G' m => fin_made (f := true) R1 E1' m k⟩
/-! ### text.find -/
theorem occ_late (s sub : Str) (hi : Nat) : ∀ (l : List Nat) (st : Array Nat × Nat), 1 ≤ st.fst.size → (forIn l st (StrLaws.occBody s sub hi 1)).run.fst = st.fst
  | [], st, h => rfl
  | a :: l, st, h => by
    rw [List.forIn_cons]
    unfold StrLaws.occBody
    rw [if_neg (by omega)]
    exact occ_late s sub hi l _ h
theorem occ_first (s sub : Str) (hi : Nat) : ∀ (l : List Nat) (free : Nat), (∀ i ∈ l, free ≤ i) →
    (forIn l ((#[] : Array Nat), free) (StrLaws.occBody s sub hi 1)).run.fst.toList = (l.find? fun i => decide (i + sub.length ≤ hi) && Builtin.Str.subAt s sub i).toList
  | [], free, _ => rfl
  | a :: l, free, hf => by
    rw [List.forIn_cons]
    unfold StrLaws.occBody
    have ha : free ≤ a := hf a (List.mem_cons_self ..)
    by_cases hc : a + sub.length ≤ hi ∧ Builtin.Str.subAt s sub a = true
    · rw [if_pos ⟨⟨⟨by simp, ha⟩, hc.1⟩, hc.2⟩]
      show (forIn l _ (StrLaws.occBody s sub hi 1)).run.fst.toList = _
      rw [occ_late s sub hi l _ (by simp), List.find?_cons_of_pos (by simp [hc.1, hc.2])]
      rfl
    · rw [if_neg (fun h => hc ⟨h.1.2, h.2⟩), List.find?_cons_of_neg (by simpa using fun h1 h2 => hc ⟨h1, h2⟩)]
      exact occ_first s sub hi l free fun i hi' => hf i (List.mem_cons_of_mem _ hi')
theorem find3_S (s t : List Nat) {k : Int} (hk : 0 ≤ k) : Txt.find3 (S s) (S t) k = fndS s t k.toNat := by
  unfold Txt.find3 fndS
  have hf : fromIndex (S s).length k = k.toNat := by
    unfold fromIndex
    rw [if_neg (by omega), Int.max_eq_right hk]
  have hS : (S s).length = s.length := by simp [S, Str.length]
  have hT : (S t).length = t.length := by simp [S, Str.length]
  rw [hf]
  have h1 := occ_first (S s) (S t) (S s).length (List.range' k.toNat ((S s).length + 1 - k.toNat)) k.toNat (fun i hi => (List.mem_range'_1.mp hi).1)
  rw [← StrLaws.occ_eq] at h1
  have hp : (fun i => decide (i + (S t).length ≤ (S s).length) && Builtin.Str.subAt (S s) (S t) i) = fun i => decide (i + t.length ≤ s.length) && ((s.drop i).take t.length == t) := by
    funext i
    rw [StrLaws.subAt_eq, hS, hT]
  rw [hp, hS] at h1
  rw [hS, h1]
  cases List.find? (fun i => decide (i + t.length ≤ s.length) && ((s.drop i).take t.length == t)) (List.range' k.toNat (s.length + 1 - k.toNat)) <;> rfl
theorem find_S (s t : List Nat) : Txt.find (S s) (S t) = fndS s t 0 := find3_S s t (k := 0) (Int.le_refl _)
theorem s_fnd1 (e : D.K = X.K) {nm : Str} (hn : nm = "find") {apos : Pos} (ha : SE D X C W ms M1 dl1 a ea) (hb : SE D X C W ms M2 dl2 b eb) (h1 : opOk dl1 M2 = true) (h2 : opOk dl2 [] = true)
    (ha1 : attributeBase ea nm X.env (eval ea X.env) = eval ea X.env) (hl : (apos.endLine == pos.line) = true) (hst : starEach [eb] X.env = (false, eval eb X.env) :: starEach [] X.env)
    (hk : (((((backTo pos (starEach [eb] X.env)).all fun x => !x.fst) && (backToKw pos (keywordEach [] X.env)).all fun x => x.fst.isSome) && decide ((([eb] : List Expr).length + ([] : List Keyword).length + if ([] : List Keyword).isEmpty = true then 0 else 1) < 30)) = true)) : SE D X C W ms (M1 ++ M2) .sh (.fnd a b none) (.Call (.Attribute ea nm apos) [eb] [] pos) := by
  subst hn
  have mt : MtR X "str.find" (fun x xs H Q => ∃ (s t : List Nat), x = .str (S s) ∧ xs = [.str (S t)] ∧ Q (.int (fndS s t 0)) H) := by
    intro pins s σ H x xs v us Q I rx rxs h
    obtain ⟨z, t, rfl, rfl, q⟩ := h
    obtain ⟨tk, rfl⟩ := rx
    cases rxs with
    | cons r1 r2 =>
      cases r2
      obtain ⟨tk2, rfl⟩ := r1
      exact PySem.SC.find ⟨.int (Txt.find (S z) (S t)), H, I.tok _, ⟨_, rfl⟩, (find_S z t).symm ▸ q⟩
  refine PE.imp (pe_bm PySem.F.plainAttrs_str PySem.F.slot_str_find PySem.F.type_str_find mt ha (pa_cons hb pa_nil hst) ha1 hk hl hst rfl) fun σ H Q ⟨env, G, Fp, R, h⟩ => ?_
  refine PoA.next (s1 := ⟨env, H, G, Fp⟩) (del0 := fun σ => Dlv D ms σ dl1) h R Ext.refl memL fun x vx s1 R1 E1 E1' d1 h1' => ?_
  cases x <;> first | exact h1'.elim | skip
  rename_i z
  have dr := (d1.held h1 (s2 := s1) Ext.refl R1).str
  obtain ⟨oz, rfl⟩ := dr
  refine ⟨rfl, PoA.next (del0 := fun σ => Dlv D ms σ dl2) h1' R1 E1' memR fun y vy s2 R2 E2 E2' d2 h2' => ?_⟩
  obtain ⟨r, hr, k⟩ := PoA.of h2'
  cases y <;> simp [fndV] at hr
  subst hr
  obtain ⟨oy, rfl⟩ := (d2.here h2 R2).str
  exact ⟨_, _, rfl, rfl, k _ _ _ _ R2 E2' rfl⟩
theorem s_fnd2 (e : D.K = X.K) {nm : Str} (hn : nm = "find") {apos : Pos} (ha : SE D X C W ms M1 dl1 a ea) (hb : SE D X C W ms M2 dl2 b eb) (hc : SE D X C W ms M3 dl3 c ec) (h1 : opOk dl1 (M2 ++ M3) = true) (h2 : opOk dl2 M3 = true) (h3 : opOk dl3 [] = true)
    (ha1 : attributeBase ea nm X.env (eval ea X.env) = eval ea X.env) (hl : (apos.endLine == pos.line) = true) (hst : starEach [eb, ec] X.env = (false, eval eb X.env) :: starEach [ec] X.env) (hst2 : starEach [ec] X.env = (false, eval ec X.env) :: starEach [] X.env) (hpl : (backTo pos (starEach [ec] X.env)).any (·.1) = false)
    (hk : (((((backTo pos (starEach [eb, ec] X.env)).all fun x => !x.fst) && (backToKw pos (keywordEach [] X.env)).all fun x => x.fst.isSome) && decide ((([eb, ec] : List Expr).length + ([] : List Keyword).length + if ([] : List Keyword).isEmpty = true then 0 else 1) < 30)) = true)) : SE D X C W ms (M1 ++ (M2 ++ M3)) .sh (.fnd a b (some c)) (.Call (.Attribute ea nm apos) [eb, ec] [] pos) := by
  subst hn
  have mt : MtR X "str.find" (fun x xs H Q => ∃ (s t : List Nat) (i : Int), x = .str (S s) ∧ xs = [.str (S t), .int i] ∧ 0 ≤ i ∧ Q (.int (fndS s t i.toNat)) H) := by
    intro pins s σ H x xs v us Q I rx rxs h
    obtain ⟨z, t, i, rfl, rfl, hi, q⟩ := h
    exact mt_find3 pins s σ H _ _ v us Q I rx rxs ⟨_, _, i, rfl, rfl, find3_S z t hi ▸ q⟩
  refine PE.imp (pe_bm PySem.F.plainAttrs_str PySem.F.slot_str_find PySem.F.type_str_find mt ha (pa_cons hb (pa_cons hc pa_nil hst2) hst) ha1 hk hl hst hpl) fun σ H Q ⟨env, G, Fp, R, h⟩ => ?_
  refine PoA.next (s1 := ⟨env, H, G, Fp⟩) (del0 := fun σ => Dlv D ms σ dl1) h R Ext.refl memL fun x vx s1 R1 E1 E1' d1 h1' => ?_
  cases x <;> first | exact h1'.elim | skip
  rename_i z
  have dr := (d1.held h1 (s2 := s1) Ext.refl R1).str
  obtain ⟨oz, rfl⟩ := dr
  refine ⟨rfl, PoA.next (del0 := fun σ => Dlv D ms σ dl2) h1' R1 E1' (fun i h => memR _ (memL _ h)) fun y vy s2 R2 E2 E2' d2 h2' => ?_⟩
  have e3 : evO C (some c) = fun env => (evE C c env).bind fun v e1 => match v with
    | .int i => .ok (some i) e1
    | _ => .st := rfl
  rw [e3] at h2'
  have hb : ∀ (r : Ev.R PV) (f : PV → Env → Ev.R (Option Int)) (g : Option Int → Env → Ev.R PV), (r.bind f).bind g = r.bind fun v e => (f v e).bind g := fun r f g => by cases r <;> rfl
  rw [hb] at h2'
  refine PoA.next (del0 := fun σ => Dlv D ms σ dl3) h2' R2 E2' (fun i h => memR _ (memR _ h)) fun w vw s3 R3 E3 E3' d3 h3' => ?_
  cases w <;> first | exact h3'.elim | skip
  rename_i i
  obtain ⟨r, hr, k⟩ := PoA.of h3'
  have ei := (d3.here h3 R3).int
  cases y <;> simp [fndV] at hr
  obtain ⟨hi, rfl⟩ := grd_some hr
  obtain ⟨oy, rfl⟩ := (d2.held h2 E3 R3).str
  subst ei
  exact ⟨_, _, i, rfl, rfl, hi, k _ _ _ _ R3 E3' rfl⟩
end
end Ev

/-! Ev29: dicts that a slot owns. -/
namespace Ev
open PySem PySem.Spec PyProof.Rows L2
section
variable {D : Dm} {ms : Nat → Nat} {env env0 : Env} {σ : L2.St} {H H0 G G0 : Hp} {Fp Fp0 : Fps} {M : Nat → Prop}
/-- a new dict on its way -/
theorem newD {p : Addr} {o : HO} {b : Bool} (R : Rel D ms env σ H G Fp) (a : Ext M env0 H0 G0 Fp0 env H G Fp) (hp : H p = none) (dc : DcA D (upd H p o) p b [] []) :
    Rel D ms env σ (upd H p o) G Fp ∧ Ext M env0 H0 G0 Fp0 env (upd H p o) G Fp ∧ Tmp D 1 (.dic b [] []) (.ref p) (upd H p o) G Fp [p] ∧ New H0 Fp0 [p] := by
  have gp : G p = none := by
    cases q : G p with
    | none => rfl
    | some u => rw [R.sub _ _ q] at hp; cases hp
  have mh : ∀ b u, H b = some u → upd H p o b = some u := fun b u e => by rw [upd_ne (ne_of_none e hp)]; exact e
  have npF : ∀ i, p ∉ Fp i := fun i h => by
    obtain ⟨us, e⟩ := R.has h
    rw [hp] at e; cases e
  refine ⟨⟨R.stay (fun _ _ e => e) fun i b u _ e => mh b u e, R.no, fun b u e => mh b u (R.sub b u e), R.dis, R.nd, R.sep, R.len⟩, ⟨fun b u e n => ?_, fun i b u h m e => mh b u (a.own i b u h m e), a.mono, a.same⟩, ⟨⟨p, [], rfl, dc, rfl, rfl⟩, fun b hb => ?_, List.nodup_cons.mpr ⟨List.not_mem_nil, List.Pairwise.nil⟩⟩, fun b o e n hb => ?_⟩
  · obtain ⟨e1, n1, g1⟩ := a.far b u e n
    exact ⟨mh b u e1, n1, g1⟩
  · rw [List.mem_singleton.mp hb]
    exact ⟨gp, npF⟩
  · rw [List.mem_singleton.mp hb] at e n
    obtain ⟨e1, _⟩ := a.far p o e n
    rw [hp] at e1; cases e1
end
theorem P_keysR : ∀ {xs : List PV} {k : List L2.Key}, Paired' keyR xs k → keysR xs k
  | [], [], _ => rfl
  | x :: xs, k :: ks, h => ⟨k, ks, rfl, h.1, P_keysR h.2⟩
  | [], _ :: _, h => h.elim
  | _ :: _, [], h => h.elim
theorem P_tksR : ∀ {xs : List PV} {k : List (List L2.Key)}, Paired' tkR xs k → tksR xs k
  | [], [], _ => rfl
  | x :: xs, k :: ks, h => ⟨k, ks, rfl, h.1, P_tksR h.2⟩
  | [], _ :: _, h => h.elim
  | _ :: _, [], h => h.elim
section
variable {κ : Type} [DecidableEq κ] {R : PV → κ → Prop} {x y : PV} {key : κ} {D : Dm} {G : Hp} {vy : V}
theorem P_len : ∀ {ks : List PV} {kk : List κ}, Paired' R ks kk → ks.length = kk.length
  | [], [], _ => rfl
  | x :: xs, k :: ks, h => by rw [List.length_cons, List.length_cons, P_len h.2]
  | [], _ :: _, h => h.elim
  | _ :: _, [], h => h.elim
theorem P_any (he : ∀ k kk, R k kk → PV.eqv k x = decide (kk = key)) : ∀ {ks : List PV} {kk : List (κ × V)}, Paired' R ks (kk.map (·.1)) → ks.any (fun k => PV.eqv k x) = kk.any fun kv => decide (kv.1 = key)
  | [], [], _ => rfl
  | k :: ks, p :: kk, h => by
    rw [List.any_cons, List.any_cons, he k p.1 h.1, P_any he h.2]
  | [], _ :: _, h => h.elim
  | _ :: _, [], h => h.elim
theorem P_app : ∀ {ks : List PV} {kk : List κ}, Paired' R ks kk → R x key → Paired' R (ks ++ [x]) (kk ++ [key])
  | [], [], _, h => ⟨h, trivial⟩
  | k :: ks, p :: kk, h, g => ⟨h.1, P_app h.2 g⟩
  | [], _ :: _, h, _ => h.elim
  | _ :: _, [], h, _ => h.elim
theorem repl_keys : ∀ kk : List (κ × V), (kk.map fun kv => if kv.1 = key then (kv.1, vy) else kv).map (·.1) = kk.map (·.1)
  | [] => rfl
  | p :: kk => by
    rw [List.map_cons, List.map_cons, List.map_cons, repl_keys kk]
    by_cases q : p.1 = key
    · rw [if_pos q]
    · rw [if_neg q]
theorem repl_vals (he : ∀ k kk, R k kk → PV.eqv k x = decide (kk = key)) (hy : RepV D G y vy) : ∀ {ks xs : List PV} {kk : List (κ × V)}, Paired' R ks (kk.map (·.1)) → RepVs D G xs (kk.map (·.2)) → RepVs D G (drepl ks xs x y) ((kk.map fun kv => if kv.1 = key then (kv.1, vy) else kv).map (·.2))
  | [], xs, [], _, g => by
    have e : xs = [] := by
      cases xs with
      | nil => rfl
      | cons _ _ => obtain ⟨_, _, z, _⟩ := g; cases z
    subst e
    exact rfl
  | k :: ks, [], p :: kk, _, g => by cases g
  | k :: ks, v :: xs, p :: kk, h, g => by
    obtain ⟨w, r, e, g1, g2⟩ := g
    have e1 : p.2 = w := (List.cons.inj e).1
    have e2 : kk.map (·.2) = r := (List.cons.inj e).2
    subst e1 e2
    have hk := he k p.1 h.1
    refine ⟨_, _, rfl, ?_, repl_vals he hy h.2 g2⟩
    show RepV D G (if PV.eqv k x then y else v) ((if p.1 = key then (p.1, vy) else p).2)
    rw [hk]
    by_cases q : p.1 = key
    · rw [decide_eq_true q, if_pos rfl, if_pos q]
      exact hy
    · rw [decide_eq_false q, if_neg (by decide), if_neg q]
      exact g1
  | [], _, _ :: _, h, _ => h.elim
  | _ :: _, _, [], h, _ => h.elim
theorem put_rel (he : ∀ k kk, R k kk → PV.eqv k x = decide (kk = key)) (hx : R x key) (hy : RepV D G y vy) {ks xs : List PV} {kk : List (κ × V)} (h : Paired' R ks (kk.map (·.1))) (g : RepVs D G xs (kk.map (·.2))) :
    Paired' R (dputK ks x) ((L2.putK kk key vy).map (·.1)) ∧ RepVs D G (dputV ks xs x y) ((L2.putK kk key vy).map (·.2)) := by
  have ha := P_any he h
  unfold dputK dputV L2.putK
  rw [ha]
  cases q : (kk.any fun kv => decide (kv.1 = key)) with
  | true =>
    rw [if_pos rfl, if_pos rfl, if_pos rfl, repl_keys]
    exact ⟨h, repl_vals he hy h g⟩
  | false =>
    rw [if_neg (by decide), if_neg (by decide), if_neg (by decide), List.map_append, List.map_append]
    exact ⟨P_app h hx, g.app ⟨vy, [], rfl, hy, rfl⟩⟩
end
/-- d[k] = y -/
theorem dput_ok {D : Dm} {G H : Hp} (sub : ∀ b o, G b = some o → H b = some o) {b : Bool} {ks xs : List PV} {us : List V} {a : Addr} {k y : PV} {vk vy : V} (d : DcA D H a b ks us) (r : RepVs D G xs us) (rk : RepV D G k vk) (ry : RepV D G y vy) (hk : isKeyB b k = true) (hz : ks.length < SZ) :
    ∃ o' us', L2.DPut H a vk vy (upd H a o') ∧ DcA D (upd H a o') a b (dputK ks k) us' ∧ RepVs D G (dputV ks xs k y) us' := by
  have hsz : sizeLine = 16777216 := rfl
  cases b with
  | false =>
    obtain ⟨kk, h1, h2, rfl⟩ := d
    obtain ⟨key, rfl, h3⟩ := isKey_R hk rk
    have hl := keysR_len h2
    rw [List.length_map] at hl
    obtain ⟨p1, p2⟩ := put_rel (R := keyR) (x := k) (key := key) (fun _ _ h => keyR_eqv h h3) h3 ry (keysR_P h2) r
    exact ⟨_, _, L2.DPut.k h1 (by rw [hsz, ← hl]; exact hz), ⟨_, upd_same, P_keysR p1, rfl⟩, p2⟩
  | true =>
    obtain ⟨h0, kk, h1, h2, rfl⟩ := d
    cases k <;> try (cases hk)
    rename_i zs
    obtain ⟨p, vs, rfl, q, rz⟩ := rk
    rcases q with q | ⟨q, _⟩
    · obtain ⟨key, rfl, h3⟩ := isKeys_R (xs := zs) hk rz
      have h3' : tkR (.tup zs) key := h3
      have hl := P_len (tksR_P h2)
      rw [List.length_map] at hl
      obtain ⟨p1, p2⟩ := put_rel (R := tkR) (x := .tup zs) (key := key) (fun _ _ h => tkR_eqv h h3') h3' ry (tksR_P h2) r
      exact ⟨_, _, L2.DPut.t h1 (sub _ _ q) (by rw [hsz, ← hl]; exact hz), ⟨h0, _, upd_same, P_tksR p1, rfl⟩, p2⟩
    · rw [h0] at q; cases q
section
variable {D : Dm} {X : Cx} {C : Calls} {W : WX} {B L : List Nat} {rm : Nat} {P : List Nat} {ms : List Nat} {M M1 M2 M3 : List Nat} {σ : L2.St} {dl dl1 dl2 dl3 : Dl} {a b c : CE} {ea eb ec tg : Expr} {pos p1 p2 p3 p4 : Pos}
theorem s_dnewK : SE D X C W ms [] (.own 1) (.dnew false) (.Dict [] [] pos) := by
  refine PE.imp pe_dnewK fun σ H Q ⟨env, G, Fp, R, h⟩ p hp => ?_
  obtain ⟨R1, a1, t1, n1⟩ := newD (b := false) R Ext.refl hp ⟨[], upd_same, rfl, rfl⟩
  exact h _ _ _ _ R1 a1 ⟨_, t1, n1⟩
theorem s_dnewT (kt : D.kt = true) : SE D X C W ms [] (.own 1) (.dnew true) (.Dict [] [] pos) := by
  refine PE.imp pe_dnewT fun σ H Q ⟨env, G, Fp, R, h⟩ p hp => ?_
  obtain ⟨R1, a1, t1, n1⟩ := newD (b := true) R Ext.refl hp ⟨kt, [], upd_same, rfl, rfl⟩
  exact h _ _ _ _ R1 a1 ⟨_, t1, n1⟩
/-- a slot's own dict is changed -/
theorem Rel.pokeD {s : Sta} {i : Nat} {b : Bool} {ks xs : List PV} (R : RelS D ms σ s) (h1 : gm ms i = 1) (hx : getV s.env i = some (.dic b ks xs)) :
    ∃ a us, σ[i]? = some (some (.ref a)) ∧ DcA D s.H a b ks us ∧ RepVs D s.G xs us ∧ ∀ o' ks' xs' us', DcA D (upd s.H a o') a b ks' us' → RepVs D s.G xs' us' → RelS D ms σ ⟨s.env.set i (some (.dic b ks' xs')), upd s.H a o', s.G, s.Fp⟩ ∧ ExtS [i] s ⟨s.env.set i (some (.dic b ks' xs')), upd s.H a o', s.G, s.Fp⟩ := by
  obtain ⟨v, e1, o⟩ := R.at_ i _ hx
  rw [h1] at o
  obtain ⟨a, us, rfl, ha, hF, rs⟩ := o
  have hi : a ∈ s.Fp i := by rw [hF]; simp
  have ga : s.G a = none := R.dis i a hi
  refine ⟨a, us, e1, ha, rs, fun o' ks' xs' us' dc' r' => ⟨⟨fun j y q => ?_, fun j q => ?_, fun b o e => ?_, R.dis, R.nd, R.sep, by simpa using R.len⟩, ⟨fun b o e n => ⟨?_, n, fun q => q⟩, fun j b o hb hj e => ?_, fun _ _ e => e, fun j hj => ⟨rfl, ?_⟩⟩⟩⟩
  · dsimp only at q ⊢
    rw [getV_set] at q
    by_cases hj : i = j ∧ i < s.env.length
    · rw [if_pos hj] at q
      cases q
      obtain ⟨rfl, _⟩ := hj
      refine ⟨_, e1, ?_⟩
      rw [h1]
      exact ⟨a, us', rfl, dc', hF, r'⟩
    · rw [if_neg hj] at q
      obtain ⟨w, e2, o2⟩ := R.at_ j y q
      have hne : i ≠ j := fun z => hj ⟨z, getV_lt hx⟩
      refine ⟨w, e2, o2.mono (fun _ _ e => e) fun b hb u e => ?_⟩
      rw [upd_ne (fun z : b = a => hne (R.sep i j a hi (by rw [← z]; exact hb)))]
      exact e
  · dsimp only at q ⊢
    rw [getV_set] at q
    by_cases hj : i = j ∧ i < s.env.length
    · rw [if_pos hj] at q; cases q
    · rw [if_neg hj] at q
      exact R.no j q
  · have : b ≠ a := fun z => by rw [z, ga] at e; cases e
    dsimp only
    rw [upd_ne this]
    exact R.sub b o e
  · have : b ≠ a := fun z => n i (by rw [z]; exact hi)
    dsimp only
    rw [upd_ne this]
    exact e
  · have hji : j ≠ i := fun z => hj (by rw [z]; exact List.mem_singleton_self i)
    dsimp only
    rw [upd_ne (fun z : b = a => hji (R.sep j i a (by rw [← z]; exact hb) hi))]
    exact e
  · have hji : j ≠ i := fun z => hj (by rw [z]; exact List.mem_singleton_self i)
    dsimp only
    rw [getV_set, if_neg fun z => hji z.1.symm]
theorem ss_dsto {i : Nat} {nm : Str} {k : CE} {ek : Expr} (hu : X.A.units + 65 < cLine) (hN : X.N[i]? = some nm) (hv : Vis X.env.scope nm) (h1 : gm ms i = 1) (hd1 : (nm == ("__debug__" : Str)) = false) (hd2 : (nm == ("__classdict__" : Str)) = false) (ha : SE D X C W ms M .sh a ea) (hk : SE D X C W ms M1 dl k ek) (hop : opOk dl [] = true) (hB : dmOk ms B = true)
    (hs : swapsWith ea (some (.Subscript (.Name nm p2) ek p3)) pos.line X.env = pure false) :
    SS D X C W B L rm P ms ms (.dsto i k a) (.Assign [.Subscript (.Name nm p2) ek p3] ea pos) := by
  refine PS.imp (ps_dput (by omega) (pe_var hN hv hd1 hd2) hk ha hs) fun Dn σ H ⟨env, G, Fp, R, h⟩ => ?_
  refine PoS.expr (ev := evE C a) (del := fun σ => Dlv D ms σ .sh) (M := M) (f := fun v e1 => match getV e1 i with
    | some _ => (evE C k e1).then fun kv e2 => onSlot i (dstoV kv v) e2
    | none => .st) h R hB fun y vy s1 R1 E1 d1 k1 => ?_
  cases q : getV s1.env i with
  | none => rw [q] at k1; exact k1.elim
  | some x0 =>
    rw [q] at k1
    obtain ⟨w, e1, _⟩ := R1.at_ i x0 q
    refine ⟨w, e1, ?_⟩
    dsimp only at k1
    refine PoS.expr (ev := evE C k) (del := fun σ => Dlv D ms σ dl) (M := M1) (PoS.go k1 E1.all_ Kp.refl) R1 hB fun kv vk s2 R2 E2 d2 k2 => ?_
    have k2 : PoS D W B L rm P ms σ s1 Dn (match getV s2.env i with
      | some x => (match dstoV kv y x with
        | some y => .nx (s2.env.set i (some y))
        | none => .st)
      | none => .st) := k2
    cases q2 : getV s2.env i with
    | none => rw [q2] at k2; exact k2.elim
    | some x =>
      rw [q2] at k2
      cases q3 : dstoV kv y x with
      | none => dsimp only at k2; rw [q3] at k2; exact k2.elim
      | some z =>
        dsimp only at k2
        rw [q3] at k2
        cases x <;> simp [dstoV] at q3
        rename_i bb ks xs
        unfold grd at q3
        split at q3
        · rename_i hh
          cases q3
          obtain ⟨p, us, e3, dc, rs, pk⟩ := R2.pokeD h1 q2
          rw [e1] at e3
          cases e3
          have dy : RepV D s2.G y vy := RepV.mono E2.mono d1
          have dk : RepV D s2.G kv vk := (d2.here hop R2).flat (isKeyB_L hh.1)
          obtain ⟨o', us', p1, p2, p3⟩ := dput_ok R2.sub dc rs dk dy hh.1 hh.2
          obtain ⟨R3, E3⟩ := pk o' _ _ us' p2 p3
          exact ⟨p, _, rfl, p1, k2 _ _ _ _ R3 (E2.all_.trans E3.all_) Kp.refl⟩
        · cases q3
/-- d.get(k, x) -/
theorem isD_of {H : Hp} {p : Addr} {bb : Bool} {ks : List PV} {us : List V} (d : DcA D H p bb ks us) : L2.IsD H p := by
  cases bb with
  | false => obtain ⟨kk, h1, _⟩ := d; exact .inl ⟨kk, .inl h1⟩
  | true => obtain ⟨_, kk, h1, _⟩ := d; exact .inr ⟨kk, .inl h1⟩
theorem RelO2.getD {G : Hp} {x : PV} {v : V} : ∀ {o : Option PV} {u : Option V}, RelO2 D G o u → RepV D G x v → RepV D G (o.getD x) (u.getD v)
  | some _, some _, h, _ => h
  | none, none, _, g => g
  | some _, none, h, _ => h.elim
  | none, some _, h, _ => h.elim
theorem s_dgt {mn : Str} {apos cpos : Pos} (hmn : mn = "get") (hu : X.A.units + 65 < cLine) (ha : SE D X C W ms M1 dl1 a ea) (hb : SE D X C W ms M2 dl2 b eb) (hc : SE D X C W ms M3 .sh c ec) (h1 : opOk dl1 (M2 ++ M3) = true) (h2 : opOk dl2 M3 = true) (m : L2.M2 X ea mn apos eb ec cpos) :
    SE D X C W ms (M1 ++ (M2 ++ M3)) .sh (.dgt a b c) (.Call (.Attribute ea mn apos) [eb, ec] [] cpos) := by
  subst hmn
  refine PE.imp (pe_dget2 (by omega) ha hb hc m) fun σ H Q ⟨env, G, Fp, R, h⟩ => ?_
  refine PoA.next (s1 := ⟨env, H, G, Fp⟩) (del0 := fun σ => Dlv D ms σ dl1) h R Ext.refl memL fun x vx s1 R1 E1 E1' d1 k1 => ?_
  cases x with
  | dic bb ks xs =>
    have hd0 := d1.held (M2 := []) (by cases dl1 <;> simp [opOk] at h1 ⊢ <;> exact h1.2) Ext.refl R1
    obtain ⟨p, us0, rfl, dc0, _⟩ := hd0.dic R1.sub
    refine ⟨p, rfl, isD_of dc0, ?_⟩
    dsimp only at k1
    refine PoA.next (ev := evE C b) (del0 := fun σ => Dlv D ms σ dl2) k1 R1 E1' (fun i h => memR _ (memL _ h)) fun y vy s2 R2 E2 E2' d2 k2 => ?_
    refine PoA.next (ev := evE C c) (del0 := fun σ => Dlv D ms σ .sh) k2 R2 E2' (fun i h => memR _ (memR _ h)) fun z vz s3 R3 E3 E3' d3 k3 => ?_
    obtain ⟨r, hr, k⟩ := PoA.of k3
    unfold dgetD at hr
    unfold grd at hr
    dsimp only at hr
    split at hr
    · rename_i hk
      cases hr
      have hd := d1.held h1 (Ext.trans2 E2 E3 memL memR) R3
      obtain ⟨p', us, e, dc, rs⟩ := hd.dic R3.sub
      cases e
      obtain ⟨o, g, rel⟩ := dget_ok R3.sub dc rs ((d2.held h2 E3 R3).flat (isKeyB_L hk)) hk
      exact ⟨o, g, k _ _ _ _ R3 E3' (rel.getD d3)⟩
    · cases hr
  | _ => exact k1.elim
end
end Ev

/-! Ev30: len(set(a list of numbers)). -/
namespace Ev
open PySem PySem.Spec PyProof.Rows L2
theorem dd_first (ns : List Int) : firstMet (fun i => ns.getD i 0) ns.length = ns.foldl ddStep [] := by
  have e : (List.range ns.length).map (fun i => ns.getD i 0) = ns := by
    apply List.ext_getElem?
    intro i
    rw [List.getElem?_map]
    by_cases h : i < ns.length
    · rw [List.getElem?_range h, List.getElem?_eq_getElem h]
      show some (ns.getD i 0) = _
      rw [List.getD_eq_getElem?_getD, List.getElem?_eq_getElem h]
      rfl
    · rw [List.getElem?_eq_none (by rw [List.length_range]; omega), List.getElem?_eq_none (by omega)]
      rfl
  unfold firstMet
  rw [e]
  rfl
theorem dd_len : ∀ (l σ : List Int), (l.foldl ddStep σ).length ≤ σ.length + l.length
  | [], σ => Nat.le_refl _
  | x :: l, σ => by
    rw [List.foldl_cons]
    have h := dd_len l (ddStep σ x)
    have : (ddStep σ x).length ≤ σ.length + 1 := by
      unfold ddStep
      split
      · omega
      · rw [List.length_append]; simp
    rw [List.length_cons]
    omega
def tLset (K : PySem.W.Frag) (ta : TE) : TE := fun σ H Q => ta σ H fun x H1 => ∃ (l : Addr) (ns : List Int), x = V.ref l ∧ SqL K H1 l (ns.map V.int) ∧ ns.length < 64 ∧ Q (.int ((ns.foldl ddStep []).length : Nat)) H1
theorem pe_lset {X : Cx} {a : Expr} {ta : TE} {p p2 q pos : Pos} (hc : X.calm = true) (hg : Gl X "len") (hm : X.mg "len" = none) (hg2 : Gl X "set") (hm2 : X.mg "set" = none) (ha : PE X a ta)
    (na : starEach [a] X.env = (false, eval a X.env) :: starEach [] X.env) : PE X (.Call (.Name "len" p) [.Call (.Name "set" p2) [a] [] q] [] pos) (tLset X.K ta) := by
  refine ⟨fun pins s σ H Q I h => ?_⟩
  refine Call_ (ld_blt I hg hm PySem.boot_len ?_)
  refine PyProof.Rows.callWith_builtin1 (PyProof.Rows.args_cons ?_ rfl) rfl rfl
  refine Call_ (ld_blt I hg2 hm2 PyProof.Rows.boot_set ?_)
  refine PyProof.Rows.callWith_type1 (PyProof.Rows.args_cons (thn (ha.run pins s σ H _ I h) fun v s1 ⟨x, H1, I1, r1, q1⟩ => PyProof.Rows.args_nil ?_) na) na rfl
  obtain ⟨l, ns, rfl, hq, h1, q1⟩ := q1
  cases r1
  obtain ⟨its, r, pl, hz⟩ := I1.list hq
  have hl : its.toArray.size = ns.length := by rw [List.size_toArray, ← r.length, List.length_map]
  refine call_set_list (I1.ok.hd hc) pl.isList (ns := ns) (by simpa using r.ints) (by unfold scanBound; omega) fun h' tk hS hk => ?_
  rw [hl, dd_first] at hS
  refine PyProof.Rows.args_nil ?_
  obtain ⟨o, es, ep, t, ho, hex, hd, _, _, _, hf, hn⟩ := hS
  have I2 : L2.Inv X pins σ H1 { s1 with heap := h', toks := tk } := I1.kept fun b o e => hk b o (Heap.lt_size e) e
  have hb := dd_len ns []
  refine call_len_set ho hex hd hf (by rw [hn]; simp only [List.length_nil] at hb; omega) ⟨.int ((ns.foldl ddStep []).length : Nat), H1, I2.tok _, ⟨_, by rw [hn]⟩, q1⟩
section
variable {D : Dm} {X : Cx} {C : Calls} {W : WX} {ms : List Nat} {M : List Nat} {dl : Dl} {a : CE} {ea : Expr} {p p2 q pos : Pos}
theorem s_lset (e : D.K = X.K) (hc : X.calm = true) {nl ns : Str} (hnl : nl = "len") (hns : ns = "set") (hg : Gl X nl) (hm : X.mg nl = none) (hg2 : Gl X ns) (hm2 : X.mg ns = none) (ha : SE D X C W ms M dl a ea) (h1 : opOk dl [] = true) (na : starEach [ea] X.env = (false, eval ea X.env) :: starEach [] X.env) :
    SE D X C W ms M .sh (.lset a) (.Call (.Name nl p) [.Call (.Name ns p2) [ea] [] q] [] pos) := by
  subst hnl hns
  refine PE.imp (pe_lset hc hg hm hg2 hm2 ha na) fun σ H Q ⟨env, G, Fp, R, h⟩ => ?_
  refine PoA.next (s1 := ⟨env, H, G, Fp⟩) (del0 := fun σ => Dlv D ms σ dl) h R Ext.refl (fun _ h => h) fun x vx s1 R1 E1 E1' d1 h1' => ?_
  obtain ⟨r, hr, k⟩ := PoA.of h1'
  unfold lsetV at hr
  split at hr
  · rename_i xs
    split at hr
    · rename_i l hl
      unfold grd at hr
      split at hr
      · rename_i hz
        cases hr
        obtain ⟨b, vs, rfl, ha', r1⟩ := (d1.here h1 R1).lst R1.sub
        have e1 := r1.asIs hl
        subst e1
        exact ⟨b, l, rfl, e ▸ ha'.sq, hz, k _ _ _ _ R1 E1' rfl⟩
      · cases hr
    · cases hr
  · cases hr
end
end Ev

/-! Ev31: dicts of texts, displayed or the module's own. -/
namespace Ev
open PySem PySem.Spec PyProof.Rows L2
def ssD (kvs : List (List Nat × List Nat)) : PV := .dic false (kvs.map fun p => .str p.1) (kvs.map fun p => .str p.2)
def ssE (kvs : List (List Nat × List Nat)) : List (TE × TE) := kvs.map fun p => (tC (.str (S p.1)), tC (.str (S p.2)))
def ssK (kvs : List (List Nat × List Nat)) : List (L2.Key × V) := kvs.map fun p => (.inr (S p.1), V.str (S p.2))
def ssOk (kvs : List (List Nat × List Nat)) : Bool := kvs.all fun p => okSb p.1 && okSb p.2
theorem tPairs_s {σ : L2.St} {H : Hp} : ∀ (kvs : List (List Nat × List Nat)) (Q : List (V × V) → Hp → Prop), Q (kvs.map fun p => (V.str (S p.1), V.str (S p.2))) H → tPairs (ssE kvs) σ H Q
  | [], Q, h => h
  | p :: r, Q, h => tPairs_s r (fun ps H3 => Q ((V.str (S p.1), V.str (S p.2)) :: ps) H3) h
theorem ss_keys : ∀ {kvs : List (List Nat × List Nat)}, ssOk kvs = true → keysR (kvs.map fun p => .str p.1) ((ssK kvs).map (·.1))
  | [], _ => rfl
  | p :: r, h => by
    obtain ⟨h1, h2⟩ := ba2 (show ((okSb p.1 && okSb p.2) && ssOk r) = true from h)
    exact ⟨_, _, rfl, ⟨okS_b (ba2 h1).1, rfl⟩, ss_keys h2⟩
theorem ss_vals {D : Dm} {G : Hp} : ∀ {kvs : List (List Nat × List Nat)}, ssOk kvs = true → RepVs D G (kvs.map fun p => .str p.2) ((ssK kvs).map (·.2))
  | [], _ => rfl
  | p :: r, h => by
    obtain ⟨h1, h2⟩ := ba2 (show ((okSb p.1 && okSb p.2) && ssOk r) = true from h)
    exact ⟨_, _, rfl, ⟨okS_b (ba2 h1).2, rfl⟩, ss_vals h2⟩
theorem ss_look {x : List Nat} {y : PV} : ∀ {kvs : List (List Nat × List Nat)}, dlook (kvs.map fun p => .str p.1) (kvs.map fun p => .str p.2) (.str x) = some y → ∃ p, p ∈ kvs ∧ p.1 = x ∧ y = .str p.2
  | [], h => by cases h
  | p :: r, h => by
    have h : (if PV.eqv (.str p.1) (.str x) then some (PV.str p.2) else dlook (r.map fun p => .str p.1) (r.map fun p => .str p.2) (.str x)) = some y := h
    by_cases q : p.1 = x
    · rw [if_pos (by simp [PV.eqv, q])] at h
      exact ⟨p, List.mem_cons_self, q, (Option.some.inj h).symm⟩
    · rw [if_neg (by simp [PV.eqv, q])] at h
      obtain ⟨p2, m, h2⟩ := ss_look h
      exact ⟨p2, List.mem_cons_of_mem _ m, h2⟩
theorem ss_lookI {x : Int} : ∀ {kvs : List (List Nat × List Nat)}, dlook (kvs.map fun p => .str p.1) (kvs.map fun p => .str p.2) (.int x) = none
  | [] => rfl
  | p :: r => by
    have h : dlook ((p :: r).map fun p => PV.str p.1) ((p :: r).map fun p => PV.str p.2) (.int x) = (if PV.eqv (.str p.1) (.int x) then some (PV.str p.2) else dlook (r.map fun p => .str p.1) (r.map fun p => .str p.2) (.int x)) := rfl
    rw [h, if_neg (by simp [PV.eqv]), ss_lookI]
/-- a dict of texts, of the module -/
def KdT (K : PySem.W.Frag) (w : World) (a : Addr) (kvs : List (List Nat × List Nat)) : Prop := ∀ p, p ∈ kvs → KDct K w a (S p.1) (.str (S p.2)) ∧ okS p.2
section
variable {D : Dm} {X : Cx} {C : Calls} {W : WX} {ms M M1 M2 M3 : List Nat} {dl dl1 dl2 dl3 : Dl} {a b c : CE} {ea eb ec : Expr} {p1 p2 p3 pos : Pos}
theorem s_ddis {kvs : List (List Nat × List Nat)} {keys : List (Option Expr)} {values : List Expr} (hp : PPs X p1 keys values (ssE kvs)) (hall : keys.all (·.isSome) = true) (hl : keys.length = values.length) (h0 : keys ≠ [])
    (h15 : keys.length ≤ 15) (hk : kvs.length ≤ 15) (ok : ssOk kvs = true) (hm : mergeK [] (ssK kvs) = ssK kvs) : SE D X C W ms [] .sh (.gl 0 (ssD kvs)) (.Dict keys values p1) := by
  refine PE.imp (pe_disp hp hall hl h0 h15) fun σ H Q ⟨env, G, Fp, R, h⟩ => ?_
  intro p hp
  refine tPairs_s kvs _ ⟨upd_same, ssK kvs, by unfold ssK; rw [List.map_map]; rfl, by unfold ssK; rw [List.length_map]; exact hk, ?_⟩
  rw [upd_upd, hm]
  obtain ⟨R1, E1, m1⟩ := newG (p := p) (o := .dK (ssK kvs)) R (Ext.refl (M := (· ∈ ([] : List Nat)))) hp
  exact h (.ref p) _ _ _ R1 E1 (show RepV D (upd G p (.dK (ssK kvs))) (ssD kvs) (.ref p) from ⟨p, (ssK kvs).map (·.2), rfl, ⟨ssK kvs, upd_same, ss_keys ok, rfl⟩, ss_vals ok⟩)
theorem s_kdix {kvs : List (List Nat × List Nat)} {n : Nat} {x : Str} {q : Addr} (hg : Gl X x) (hm : X.mg x = some (.ref q)) (kd : KdT X.K X.w q kvs) (hd : (x == ("__debug__" : Str)) = false) (hb : SE D X C W ms M dl b eb) (hop : opOk dl [] = true) (hp : PlainIx eb) :
    SE D X C W ms M .sh (.idx (.gl n (ssD kvs)) b) (.Subscript (.Name x p1) eb pos) := by
  refine PE.imp (pe_ix ix_kdict (pe_glob hg hm (v := .ref q) rfl hd) hb hp) fun σ H Q ⟨env, G, Fp, R0, h⟩ => ?_
  have h : PoA D W ms σ M (Dlv D ms σ .sh) ⟨env, H, G, Fp⟩ ((evE C b env).bind fun y e2 => R.of (idx (ssD kvs) y) e2) Q := h
  refine PoA.next (ev := evE C b) (s1 := ⟨env, H, G, Fp⟩) (del0 := fun σ => Dlv D ms σ dl) h R0 Ext.refl (fun _ h => h) fun y vy s2 R2 E2 E2' d2 h2' => ?_
  obtain ⟨r, hr, k⟩ := PoA.of h2'
  have dy := d2.here hop R2
  have hr : (if isKeyB false y then dlook (kvs.map fun p => .str p.1) (kvs.map fun p => .str p.2) y else none) = some r := hr
  cases y with
  | int i =>
    rw [if_pos (show isKeyB false (.int i) = true from rfl), ss_lookI] at hr
    cases hr
  | str s =>
    rw [if_pos (show isKeyB false (.str s) = true from rfl)] at hr
    obtain ⟨p, m, rfl, rfl⟩ := ss_look hr
    obtain ⟨o1, rfl⟩ := dy.str
    exact ⟨q, S p.1, .str (S p.2), rfl, rfl, (kd p m).1, k _ _ _ _ R2 E2' (show RepV D s2.G (.str p.2) (.str (S p.2)) from ⟨(kd p m).2, rfl⟩)⟩
  | _ => exact absurd hr (by simp [isKeyB, isKey])
end
/-! ### the hook -/
abbrev TabT : Type := Str × List (List Nat × List Nat)
def tvB (K : PySem.W.Frag) (ts : List TabT) : Bool := ts.all fun t => ssOk t.2 && He.valsB K (He.ga K t.1) (t.2.map fun p => (S p.1, He.Dv.str (S p.2)))
abbrev AlK : Type := He.AlD × (Bool × List (Option (List (Option (Str × Int)))))
def obsK (fa : List He.Fa) (fn : List He.DefD) (cs : List (PV × Str)) (ts : List TabT) (K : PySem.W.Frag) : AlK := (He.obsD fa fn K, (consB K cs && tvB K ts, ts.map fun t => He.dicW K (He.ga K t.1)))
def valK (fn : List He.DefD) (ts : List TabT) (w : World) : AlK := (He.valD fn, (true, ts.map fun t => some (He.keysIn w.params (t.2.map fun p => S p.1))))
def obK (n : Nat) (fa : List He.Fa) (fn : List He.DefD) (cs : List (PV × Str)) (ts : List TabT) (g : Addr → Option Obj) : AlK := obsK fa fn cs ts (He.frG g (He.asD g n))
def TabsOk (K : PySem.W.Frag) (w : World) (ts : List TabT) : Prop := ∀ t, t ∈ ts → KdT K w (He.ga K t.1) t.2
theorem tabs_ok {fa : List He.Fa} {fn : List He.DefD} {cs : List (PV × Str)} {ts : List TabT} {w : World} {K : PySem.W.Frag} (e : obsK fa fn cs ts K = valK fn ts w) : He.SaysD fa fn K ∧ consB K cs = true ∧ TabsOk K w ts := by
  have e1 : He.obsD fa fn K = He.valD fn := congrArg (fun z : AlK => z.1) e
  have e2 : (consB K cs && tvB K ts) = true := congrArg (fun z : AlK => z.2.1) e
  have e3 : (ts.map fun t => He.dicW K (He.ga K t.1)) = ts.map fun t => some (He.keysIn w.params (t.2.map fun p => S p.1)) := congrArg (fun z : AlK => z.2.2) e
  refine ⟨e1, (ba2 e2).1, fun t ht p hp => ?_⟩
  obtain ⟨i, hi, hti⟩ := List.getElem_of_mem ht
  have e4 : (ts.map fun t => He.dicW K (He.ga K t.1))[i]? = (ts.map fun t => some (He.keysIn w.params (t.2.map fun p => S p.1)))[i]? := by rw [e3]
  have hg : ts[i]? = some t := by rw [List.getElem?_eq_getElem hi, hti]
  rw [List.getElem?_map, List.getElem?_map, hg] at e4
  obtain ⟨es, n, kd⟩ := He.dicW_ok (Option.some.inj e4)
  obtain ⟨o1, o2⟩ := ba2 (List.all_eq_true.mp (ba2 e2).2 t ht)
  obtain ⟨u, h1, h2⟩ := He.valsB_ok o2 (q := (S p.1, He.Dv.str (S p.2))) (List.mem_map_of_mem (f := fun p : List Nat × List Nat => (S p.1, He.Dv.str (S p.2))) hp)
  exact ⟨⟨es, n, u, kd.at_, kd.lit, h1, h2⟩, okS_b (ba2 (List.all_eq_true.mp o1 p hp)).2⟩
def hookK (n : Nat) (fa : List He.Fa) (fn : List He.DefD) (cs : List (PV × Str)) (ts : List TabT) : PySem.W.Hook where
  α := AlK
  obs := fun s => obK n fa fn cs ts s.heap.get?
  val := fun w => valK fn ts w
  says := fun w h => ∃ K : PySem.W.Frag, K.In h ∧ (He.SaysD fa fn K ∧ consB K cs = true ∧ TabsOk K w ts)
  of := fun _ _ e => ⟨_, He.frG_in, tabs_ok e⟩
  keeps := fun _ _ _ ⟨K, hK, c⟩ k => ⟨K, PySem.W.Frag.In.keeps hK k, c⟩
theorem obK_eq {n : Nat} {fa : List He.Fa} {fn : List He.DefD} {cs : List (PV × Str)} {ts : List TabT} {g : Addr → Option Obj} {s : Shared} (h : ∀ a, g a = s.heap.get? a) : obK n fa fn cs ts g = (hookK n fa fn cs ts).obs s := by
  have e : g = s.heap.get? := funext h
  rw [e] <;> rfl
end Ev

namespace My
open PySem PySem.Spec PyProof.Rows L2 Ev
def top (i : Nat) : Stmt := PySem.Challenge.pw_everyscan_k53_format_words.main.body.getD i (.Pass ⟨0, 0, 0, 0⟩)
abbrev s_is_number : Stmt := top 5
def d_is_number : He.DefD := ⟨("is_number", none), "is_number", "is_number", defArgs s_is_number, defBody s_is_number, defScope s_is_number, [], []⟩
abbrev s_check_number : Stmt := top 6
def d_check_number : He.DefD := ⟨("check_number", none), "check_number", "check_number", defArgs s_check_number, defBody s_check_number, defScope s_check_number, [], []⟩
abbrev s_is_text : Stmt := top 7
def d_is_text : He.DefD := ⟨("is_text", none), "is_text", "is_text", defArgs s_is_text, defBody s_is_text, defScope s_is_text, [], []⟩
abbrev s_bits_of : Stmt := top 9
def d_bits_of : He.DefD := ⟨("bits_of", none), "bits_of", "bits_of", defArgs s_bits_of, defBody s_bits_of, defScope s_bits_of, [], []⟩
abbrev s_rest_of : Stmt := top 10
def d_rest_of : He.DefD := ⟨("rest_of", none), "rest_of", "rest_of", defArgs s_rest_of, defBody s_rest_of, defScope s_rest_of, [], []⟩
abbrev s_check_level : Stmt := top 16
def d_check_level : He.DefD := ⟨("check_level", none), "check_level", "check_level", defArgs s_check_level, defBody s_check_level, defScope s_check_level, [], []⟩
abbrev s_bits_text : Stmt := top 17
def d_bits_text : He.DefD := ⟨("bits_text", none), "bits_text", "bits_text", defArgs s_bits_text, defBody s_bits_text, defScope s_bits_text, [], []⟩
abbrev s_number_of : Stmt := top 18
def d_number_of : He.DefD := ⟨("number_of", none), "number_of", "number_of", defArgs s_number_of, defBody s_number_of, defScope s_number_of, [], []⟩
abbrev s_exchanged : Stmt := top 19
def d_exchanged : He.DefD := ⟨("exchanged", none), "exchanged", "exchanged", defArgs s_exchanged, defBody s_exchanged, defScope s_exchanged, [], []⟩
abbrev s_format_of : Stmt := top 20
def d_format_of : He.DefD := ⟨("format_of", none), "format_of", "format_of", defArgs s_format_of, defBody s_format_of, defScope s_format_of, [], []⟩
abbrev s_format_bits : Stmt := top 21
def d_format_bits : He.DefD := ⟨("format_bits", none), "format_bits", "format_bits", defArgs s_format_bits, defBody s_format_bits, defScope s_format_bits, [], []⟩
abbrev s_apart : Stmt := top 22
def d_apart : He.DefD := ⟨("apart", none), "apart", "apart", defArgs s_apart, defBody s_apart, defScope s_apart, [], []⟩
abbrev s_nearest_format : Stmt := top 23
def d_nearest_format : He.DefD := ⟨("nearest_format", none), "nearest_format", "nearest_format", defArgs s_nearest_format, defBody s_nearest_format, defScope s_nearest_format, [], []⟩
abbrev s_format_named : Stmt := top 24
def d_format_named : He.DefD := ⟨("format_named", none), "format_named", "format_named", defArgs s_format_named, defBody s_format_named, defScope s_format_named, [], []⟩
abbrev s__law_mixed : Stmt := top 26
def d__law_mixed : He.DefD := ⟨("_law_mixed", none), "_law_mixed", "_law_mixed", defArgs s__law_mixed, defBody s__law_mixed, defScope s__law_mixed, [], []⟩
abbrev s__law_numbers : Stmt := top 27
def d__law_numbers : He.DefD := ⟨("_law_numbers", none), "_law_numbers", "_law_numbers", defArgs s__law_numbers, defBody s__law_numbers, defScope s__law_numbers, [], []⟩
abbrev s__law_draw : Stmt := top 28
def d__law_draw : He.DefD := ⟨("_law_draw", none), "_law_draw", "_law_draw", defArgs s__law_draw, defBody s__law_draw, defScope s__law_draw, [], []⟩
abbrev s__law_equal : Stmt := top 29
def d__law_equal : He.DefD := ⟨("_law_equal", none), "_law_equal", "_law_equal", defArgs s__law_equal, defBody s__law_equal, defScope s__law_equal, [], []⟩
abbrev s__law_all_equal : Stmt := top 30
def d__law_all_equal : He.DefD := ⟨("_law_all_equal", none), "_law_all_equal", "_law_all_equal", defArgs s__law_all_equal, defBody s__law_all_equal, defScope s__law_all_equal, [], []⟩
abbrev s__law_words : Stmt := top 35
def d__law_words : He.DefD := ⟨("_law_words", none), "_law_words", "_law_words", defArgs s__law_words, defBody s__law_words, defScope s__law_words, [], []⟩
abbrev s__law_apart : Stmt := top 36
def d__law_apart : He.DefD := ⟨("_law_apart", none), "_law_apart", "_law_apart", defArgs s__law_apart, defBody s__law_apart, defScope s__law_apart, [], []⟩
abbrev s__law_all : Stmt := top 37
def d__law_all : He.DefD := ⟨("_law_all", none), "_law_all", "_law_all", defArgs s__law_all, defBody s__law_all, defScope s__law_all, [], []⟩
abbrev s__law_named : Stmt := top 38
def d__law_named : He.DefD := ⟨("_law_named", none), "_law_named", "_law_named", defArgs s__law_named, defBody s__law_named, defScope s__law_named, [], []⟩
abbrev s_law : Stmt := top 39
def d_law : He.DefD := ⟨("law", none), "law", "law", defArgs s_law, defBody s_law, defScope s_law, [], []⟩
def fn0 : List He.DefD := [d_is_number, d_check_number, d_is_text, d_bits_of, d_rest_of, d_check_level, d_bits_text, d_number_of, d_exchanged, d_format_of, d_format_bits, d_apart, d_nearest_format, d_format_named, d__law_mixed, d__law_numbers, d__law_draw, d__law_equal, d__law_all_equal, d__law_words, d__law_apart, d__law_all, d__law_named, d_law]
def fn : List He.DefD := fn0
def fa0 : List He.Fa := [.glo "ScanError", .glo "BadText", .glo "BadArgument", .glo "is_number", .glo "check_number", .glo "is_text", .glo "bits_of", .glo "rest_of", .glo "LEVELS", .glo "LEVEL_BITS", .int "FORMAT_POLY" 1335, .str "FORMAT_MASK" "101010000010010", .glo "check_level", .glo "bits_text", .glo "number_of", .glo "exchanged", .glo "format_of", .glo "format_bits", .glo "apart", .glo "nearest_format", .glo "format_named", .glo "_law_mixed", .glo "_law_numbers", .glo "_law_draw", .glo "_law_equal", .glo "_law_all_equal", .glo "_law_words", .glo "_law_apart", .glo "_law_all", .glo "_law_named"]
def fa1 : List He.Fa := [.glo "law", .free "bool", .free "int", .free "isinstance", .free "len", .free "list", .free "min", .free "range", .free "sorted", .free "str", .free "tuple", .exc "ScanError", .exc "BadText", .exc "BadArgument", .exm "ScanError" "BadText" false, .exm "ScanError" "BadArgument" false, .exm "BadText" "BadText" true, .exm "BadText" "BadArgument" false, .exm "BadArgument" "BadText" false, .exm "BadArgument" "BadArgument" true]
def fa : List He.Fa := fa0 ++ fa1
def k_LEVELS : PV := (.tup [(.str [76]), (.str [77]), (.str [81]), (.str [72])])
def cons : List (PV × Str) := [(k_LEVELS, "LEVELS")]
abbrev R : PySem.W.OpenRow := PySem.W.OpenLaw.row PySem.Challenge.rw_everyscan_k53_format_words
def tabs : List TabT := [("LEVEL_BITS", [([76], [48, 49]), ([77], [48, 48]), ([81], [49, 49]), ([72], [49, 48])])]
abbrev hk : PySem.W.Hook := hookK 4 fa fn cons tabs
def ob (s : PySem.W.SharedT) : AlK := obK 4 fa fn cons tabs (HandSHeadRun.getT s)
theorem ob_eq (s : PySem.W.SharedT) : ob s = hk.obs s.abs := obK_eq (HandSHeadRun.getT_eq s)
def loose0 : List Str := [("ScanError" : Str), ("BadText" : Str), ("BadArgument" : Str), ("is_number" : Str), ("check_number" : Str), ("is_text" : Str), ("bits_of" : Str), ("rest_of" : Str), ("LEVELS" : Str), ("LEVEL_BITS" : Str), ("FORMAT_POLY" : Str), ("FORMAT_MASK" : Str), ("check_level" : Str), ("bits_text" : Str), ("number_of" : Str), ("exchanged" : Str), ("format_of" : Str), ("format_bits" : Str), ("apart" : Str), ("nearest_format" : Str), ("format_named" : Str), ("_law_mixed" : Str), ("_law_numbers" : Str), ("_law_draw" : Str), ("_law_equal" : Str), ("_law_all_equal" : Str), ("_law_side" : Str), ("_law_finder" : Str), ("_law_frame" : Str), ("_law_walk" : Str)]
def loose1 : List Str := [("_law_words" : Str), ("_law_apart" : Str), ("_law_all" : Str), ("_law_named" : Str)]
def loose : List Str := loose0 ++ loose1
theorem run (w : World) : HandSHeadRun.RunEq R (PySem.W.view R.prog [39]) hk ob 40000 loose w := PySem.W.byRow2 "special-get-raises" (P := fun w => HandSHeadRun.RunEq R (PySem.W.view R.prog [39]) hk ob 40000 loose w) (fun w os => by kernel_rfl) (fun w os => by kernel_rfl) w
def dm (K : PySem.W.Frag) : Dm := ⟨K, fun i => match i with
  | 0 => He.ga K "is_number"
  | 1 => He.ga K "check_number"
  | 2 => He.ga K "is_text"
  | 3 => He.ga K "bits_of"
  | 4 => He.ga K "rest_of"
  | 5 => He.ga K "check_level"
  | 6 => He.ga K "bits_text"
  | 7 => He.ga K "number_of"
  | 8 => He.ga K "exchanged"
  | 9 => He.ga K "format_of"
  | 10 => He.ga K "format_bits"
  | 11 => He.ga K "apart"
  | 12 => He.ga K "nearest_format"
  | 13 => He.ga K "format_named"
  | 14 => He.ga K "_law_mixed"
  | 15 => He.ga K "_law_numbers"
  | 16 => He.ga K "_law_draw"
  | 17 => He.ga K "_law_equal"
  | 18 => He.ga K "_law_all_equal"
  | 19 => He.ga K "_law_words"
  | 20 => He.ga K "_law_apart"
  | 21 => He.ga K "_law_all"
  | 22 => He.ga K "_law_named"
  | 23 => He.ga K "law"
  | _ => 0, fun i => match i with
  | 0 => He.ga K "ScanError"
  | 1 => He.ga K "BadText"
  | 2 => He.ga K "BadArgument"
  | _ => 0, false⟩
def c_is_number : List CS := [.ret (.an (.isi (.var 0) .int) (.an (.nt (.isi (.var 0) .bool)) (.chn .le .le (.var 1) (.var 0) (.var 2))))]
def c_check_number : List CS := [.ite (.nt (.call 0 [(.var 0), (.var 1), (.var 2)])) [.raise 2] []]
def c_is_text : List CS := [.ite (.or (.nt (.isi (.var 0) .str)) (.nt (.chn .le .le (.var 2) (.b1 .len (.var 0)) (.var 3)))) [.ret (.bl false)] [], .ret (.cmp .eq (.cp 0 [4] (.nm 4) (.of 2 (.var 0)) (some (.cmp .nin (.var 4) (.var 1))) (.var 4)) (.lst 1 []))]
def c_bits_of : List CS := [.set 1 (.int 0), .whl (.cmp .gt (.var 0) (.int 0)) [.set 0 (.bin .fdiv (.var 0) (.int 2)), .aug 1 .add (.int 1)], .ret (.var 1)]
def c_rest_of : List CS := [.set 2 (.call 3 [(.var 1)]), .whl (.cmp .ge (.call 3 [(.var 0)]) (.var 2)) [.set 3 (.var 1), .fr (.nm 4) (.r1 (.bin .sub (.call 3 [(.var 0)]) (.var 2))) [.set 3 (.bin .mul (.var 3) (.int 2))], .set 0 (.bin .bxor (.var 0) (.var 3))], .ret (.var 0)]
def c_check_level : List CS := [.ite (.or (.nt (.isi (.var 0) .str)) (.cmp .nin (.var 0) (.gl 0 k_LEVELS))) [.raise 2] []]
def c_bits_text : List CS := [.set 2 (.str []), .fr (.nm 3) (.r1 (.var 1)) [.set 2 (.bin .add (.b1 .str (.bin .mod (.var 0) (.int 2))) (.var 2)), .set 0 (.bin .fdiv (.var 0) (.int 2))], .ret (.var 2)]
def c_number_of : List CS := [.set 1 (.int 0), .fr (.nm 2) (.of 2 (.var 0)) [.set 1 (.bin .add (.bin .mul (.int 2) (.var 1)) (.ite (.cmp .eq (.var 2) (.str [49])) (.int 1) (.int 0)))], .ret (.var 1)]
def c_exchanged : List CS := [.ret (.m1 .join (.str []) (.cp 0 [2] (.nm 2) (.r1 (.b1 .len (.var 0))) none (.ite (.cmp .eq (.idx (.var 0) (.var 2)) (.idx (.var 1) (.var 2))) (.str [48]) (.str [49]))))]
def c_format_of : List CS := [.set 2 (.bin .add (.idx (.gl 0 (.dic false [.str [76], .str [77], .str [81], .str [72]] [.str [48, 49], .str [48, 48], .str [49, 49], .str [49, 48]])) (.var 0)) (.call 6 [(.var 1), (.int 3)])), .set 3 (.call 4 [(.call 7 [(.bin .add (.var 2) (.str [48, 48, 48, 48, 48, 48, 48, 48, 48, 48]))]), (.gl 0 (.int 1335))]), .ret (.call 8 [(.bin .add (.var 2) (.call 6 [(.var 3), (.int 10)])), (.gl 0 (.str [49, 48, 49, 48, 49, 48, 48, 48, 48, 48, 49, 48, 48, 49, 48]))])]
def c_format_bits : List CS := [.ex (.call 5 [(.var 0)]), .ex (.call 1 [(.var 1), (.int 0), (.int 7)]), .ret (.call 9 [(.var 0), (.var 1)])]
def c_apart : List CS := [.ret (.b1 .len (.cp 0 [2] (.nm 2) (.r1 (.b1 .len (.var 0))) (some (.cmp .ne (.idx (.var 0) (.var 2)) (.idx (.var 1) (.var 2)))) (.var 2)))]
def c_nearest_format : List CS := [.set 1 (.lst 1 []), .fr (.nm 2) (.of 1 (.gl 0 k_LEVELS)) [.set 1 (.bin .add (.var 1) (.cp 0 [3] (.nm 3) (.r1 (.int 8)) none (.tup [(.call 11 [(.var 0), (.call 9 [(.var 2), (.var 3)])]), (.var 2), (.var 3)])))], .set 4 (.b1 .min (.cp 0 [5] (.nm 5) (.of 0 (.var 1)) none (.idx (.var 5) (.int 0)))), .set 6 (.cp 0 [5] (.nm 5) (.of 0 (.var 1)) (some (.cmp .eq (.idx (.var 5) (.int 0)) (.var 4))) (.var 5)), .ret (.ite (.an (.cmp .eq (.b1 .len (.var 6)) (.int 1)) (.cmp .le (.var 4) (.int 3))) (.tup [(.str [114, 101, 97, 100]), (.idx (.idx (.var 6) (.int 0)) (.int 1)), (.idx (.idx (.var 6) (.int 0)) (.int 2)), (.var 4)]) .non)]
def c_format_named : List CS := [.ite (.nt (.call 2 [(.var 0), (.str [48, 49]), (.int 15), (.int 15)])) [.raise 1] [], .ret (.call 12 [(.var 0)])]
def c__law_mixed : List CS := [.set 2 (.bin .mod (.bin .add (.bin .add (.bin .mul (.var 0) (.int 48271)) (.bin .mul (.var 1) (.int 69621))) (.int 12345)) (.int 2147483647)), .ret (.bin .mod (.bin .add (.bin .mul (.var 2) (.bin .add (.bin .fdiv (.var 2) (.int 65536)) (.int 3))) (.var 1)) (.int 2147483647))]
def c__law_numbers : List CS := [.set 1 (.lst 1 []), .fr (.nm 2) (.of 3 (.var 0)) [.ite (.cmp .ge (.var 2) (.bin .pow (.int 10) (.int 18))) [.set 3 (.var 2), .fr (.nm 4) (.r1 (.int 60)) [.ite (.cmp .gt (.var 3) (.int 0)) [.app 1 [] (.bin .mod (.var 3) (.int 1000000)), .set 3 (.bin .fdiv (.var 3) (.int 1000000))] []]] [.app 1 [] (.bin .mod (.var 2) (.int 1000000)), .fr (.nm 4) (.r1 (.int 5)) [.app 1 [] (.bin .mod (.call 14 [(.call 14 [(.bin .mod (.var 2) (.int 2147483647)), (.var 4)]), (.bin .add (.var 4) (.int 7))]) (.int 1000000))]]], .ret (.var 1)]
def c__law_draw : List CS := [.set 2 (.idx (.bv 0) (.int 1)), .sto 0 [(.int 1)] (.bin .add (.var 2) (.int 1)), .ite (.cmp .lt (.var 2) (.b1 .len (.idx (.bv 0) (.int 0)))) [.ret (.bin .mod (.idx (.idx (.bv 0) (.int 0)) (.var 2)) (.var 1))] [], .set 3 (.bin .add (.int 1) (.var 2)), .ite (.cmp .gt (.b1 .len (.idx (.bv 0) (.int 0))) (.int 0)) [.set 3 (.bin .add (.var 3) (.bin .mul (.int 1009) (.idx (.idx (.bv 0) (.int 0)) (.int 0))))] [], .ret (.bin .mod (.bin .fdiv (.call 14 [(.call 14 [(.var 3), (.var 2)]), (.int 5)]) (.int 7)) (.var 1))]
def c__law_equal : List CS := [.ite (.isi (.var 1) .list) [.ret (.an (.isi (.var 0) .list) (.an (.cmp .eq (.b1 .len (.var 0)) (.b1 .len (.var 1))) (.call 18 [(.var 0), (.var 1)])))] [], .ite (.isi (.var 1) .tuple) [.ret (.an (.isi (.var 0) .tuple) (.an (.cmp .eq (.b1 .len (.var 0)) (.b1 .len (.var 1))) (.call 18 [(.var 0), (.var 1)])))] [], .ite (.isi (.var 1) .bool) [.ret (.an (.isi (.var 0) .bool) (.cmp .eq (.var 0) (.var 1)))] [], .ite (.isi (.var 1) .int) [.ret (.an (.isi (.var 0) .int) (.an (.nt (.isi (.var 0) .bool)) (.cmp .eq (.var 0) (.var 1))))] [], .ite (.isi (.var 1) .str) [.ret (.an (.isi (.var 0) .str) (.cmp .eq (.var 0) (.var 1)))] [], .ret (.cmp .is (.var 0) .non)]
def c__law_all_equal : List CS := [.fr (.nm 2) (.r1 (.b1 .len (.var 1))) [.ite (.nt (.call 17 [(.idx (.var 0) (.var 2)), (.idx (.var 1) (.var 2))])) [.ret (.bl false)] []], .ret (.bl true)]
def c__law_words : List CS := [.ret (.gl 0 (.dic false [.str [76], .str [77], .str [81], .str [72]] [.str [49, 49, 49, 48, 49, 49, 49, 49, 49, 48, 48, 48, 49, 48, 48, 32, 49, 49, 49, 48, 48, 49, 48, 49, 49, 49, 49, 48, 48, 49, 49, 32, 49, 49, 49, 49, 49, 48, 49, 49, 48, 49, 48, 49, 48, 49, 48, 32, 49, 49, 49, 49, 48, 48, 48, 49, 48, 48, 49, 49, 49, 48, 49, 32, 49, 49, 48, 48, 49, 49, 48, 48, 48, 49, 48, 49, 49, 49, 49, 32, 49, 49, 48, 48, 48, 49, 49, 48, 48, 48, 49, 49, 48, 48, 48, 32, 49, 49, 48, 49, 49, 48, 48, 48, 49, 48, 48, 48, 48, 48, 49, 32, 49, 49, 48, 49, 48, 48, 49, 48, 49, 49, 49, 48, 49, 49, 48], .str [49, 48, 49, 48, 49, 48, 48, 48, 48, 48, 49, 48, 48, 49, 48, 32, 49, 48, 49, 48, 48, 48, 49, 48, 48, 49, 48, 48, 49, 48, 49, 32, 49, 48, 49, 49, 49, 49, 48, 48, 49, 49, 49, 49, 49, 48, 48, 32, 49, 48, 49, 49, 48, 49, 49, 48, 49, 48, 48, 49, 48, 49, 49, 32, 49, 48, 48, 48, 49, 48, 49, 49, 49, 49, 49, 49, 48, 48, 49, 32, 49, 48, 48, 48, 48, 48, 48, 49, 49, 48, 48, 49, 49, 49, 48, 32, 49, 48, 48, 49, 49, 49, 49, 49, 48, 48, 49, 48, 49, 49, 49, 32, 49, 48, 48, 49, 48, 49, 48, 49, 48, 49, 48, 48, 48, 48, 48], .str [48, 49, 49, 48, 49, 48, 49, 48, 49, 48, 49, 49, 49, 49, 49, 32, 48, 49, 49, 48, 48, 48, 48, 48, 49, 49, 48, 49, 48, 48, 48, 32, 48, 49, 49, 49, 49, 49, 49, 48, 48, 49, 49, 48, 48, 48, 49, 32, 48, 49, 49, 49, 48, 49, 48, 48, 48, 48, 48, 48, 49, 49, 48, 32, 48, 49, 48, 48, 49, 48, 48, 49, 48, 49, 49, 48, 49, 48, 48, 32, 48, 49, 48, 48, 48, 48, 49, 49, 48, 48, 48, 48, 48, 49, 49, 32, 48, 49, 48, 49, 49, 49, 48, 49, 49, 48, 49, 49, 48, 49, 48, 32, 48, 49, 48, 49, 48, 49, 49, 49, 49, 49, 48, 49, 49, 48, 49], .str [48, 48, 49, 48, 49, 49, 48, 49, 48, 48, 48, 49, 48, 48, 49, 32, 48, 48, 49, 48, 48, 49, 49, 49, 48, 49, 49, 49, 49, 49, 48, 32, 48, 48, 49, 49, 49, 48, 48, 49, 49, 49, 48, 48, 49, 49, 49, 32, 48, 48, 49, 49, 48, 48, 49, 49, 49, 48, 49, 48, 48, 48, 48, 32, 48, 48, 48, 48, 49, 49, 49, 48, 49, 49, 48, 48, 48, 49, 48, 32, 48, 48, 48, 48, 48, 49, 48, 48, 49, 48, 49, 48, 49, 48, 49, 32, 48, 48, 48, 49, 49, 48, 49, 48, 48, 48, 48, 49, 49, 48, 48, 32, 48, 48, 48, 49, 48, 48, 48, 48, 48, 49, 49, 49, 48, 49, 49]]))]
def c__law_apart : List CS := [.ret (.b1 .len (.cp 0 [2] (.nm 2) (.r1 (.int 15)) (some (.cmp .ne (.idx (.var 0) (.var 2)) (.idx (.var 1) (.var 2)))) (.var 2)))]
def c__law_all : List CS := [.set 0 (.lst 1 []), .fr (.nm 1) (.of 0 (.lst 1 [(.str [76]), (.str [77]), (.str [81]), (.str [72])])) [.set 2 (.m1 .split (.idx (.call0 19) (.var 1)) (.str [32])), .set 0 (.bin .add (.var 0) (.cp 0 [3] (.nm 3) (.r1 (.int 8)) none (.tup [(.idx (.var 2) (.var 3)), (.var 1), (.var 3)])))], .ret (.var 0)]
def c__law_named : List CS := [.set 1 (.srt (.cp 0 [2, 3, 4] (.tp [2, 3, 4]) (.of 0 (.call0 21)) none (.tup [(.call 20 [(.var 0), (.var 2)]), (.var 3), (.var 4)]))), .ite (.or (.cmp .gt (.idx (.idx (.var 1) (.int 0)) (.int 0)) (.int 3)) (.cmp .eq (.idx (.idx (.var 1) (.int 0)) (.int 0)) (.idx (.idx (.var 1) (.int 1)) (.int 0)))) [.ret .non] [], .ret (.tup [(.str [114, 101, 97, 100]), (.idx (.idx (.var 1) (.int 0)) (.int 1)), (.idx (.idx (.var 1) (.int 0)) (.int 2)), (.idx (.idx (.var 1) (.int 0)) (.int 0))])]
def c_law : List CS := [.set 1 (.lst 1 [(.call 15 [(.var 0)]), (.int 0)]), .fr (.tp [2, 3, 4]) (.of 0 (.call0 21)) [.ite (.nt (.call 17 [(.call 10 [(.var 3), (.var 4)]), (.var 2)])) [.ret (.bl false)] []], .setT [2, 3, 4] (.idx (.call0 21) (.call 16 [(.io 1), (.int 32)])), .fr (.nm 5) (.of 0 (.lst 1 [(.int 0), (.int 1), (.int 2), (.int 3), (.int 4), (.int 6)])) [.set 6 (.var 2), .fr (.nm 7) (.r1 (.var 5)) [.set 8 (.call 16 [(.io 1), (.int 15)]), .set 6 (.bin .add (.bin .add (.sl (.var 6) none (some (.var 8))) (.ite (.cmp .eq (.idx (.var 6) (.var 8)) (.str [48])) (.str [49]) (.str [48]))) (.sl (.var 6) (some (.bin .add (.var 8) (.int 1))) none))], .ite (.nt (.call 17 [(.call 13 [(.var 6)]), (.call 22 [(.var 6)])])) [.ret (.bl false)] []], .set 6 (.m1 .join (.str []) (.cp 0 [9] (.nm 9) (.r1 (.int 15)) none (.b1 .str (.call 16 [(.io 1), (.int 2)])))), .ite (.or (.nt (.call 17 [(.call 13 [(.var 6)]), (.call 22 [(.var 6)])])) (.cmp .lt (.b1 .min (.cp 0 [10] (.nm 10) (.of 0 (.call0 21)) none (.call 20 [(.rev (.var 2)), (.idx (.var 10) (.int 0))]))) (.int 3))) [.ret (.bl false)] [], .fr (.nm 11) (.of 0 (.lst 1 [(.str []), (.bin .mul (.str [49]) (.int 14)), (.bin .mul (.str [49]) (.int 16)), (.bin .mul (.str [50]) (.int 15)), .non, (.int 1)])) [.try [.ex (.call 13 [(.var 11)]), .ret (.bl false)] [([1], [0, 2], [.pass])]], .fr (.nm 11) (.of 0 (.lst 1 [(.tup [(.str [88]), (.int 0)]), (.tup [(.str [76]), (.int 8)]), (.tup [(.str [76]), (.neg (.int 1))]), (.tup [(.str [76]), (.bl true)]), (.tup [.non, (.int 0)]), (.tup [(.str [108]), (.int 0)])])) [.try [.ex (.call 10 [(.idx (.var 11) (.int 0)), (.idx (.var 11) (.int 1))]), .ret (.bl false)] [([2], [0, 1], [.pass])]], .ret (.bl true)]
def f_is_number : FD := ⟨3, 3, [], [], 0, c_is_number⟩
def f_check_number : FD := ⟨3, 3, [], [], 0, c_check_number⟩
def f_is_text : FD := ⟨4, 5, [], [], 0, c_is_text⟩
def f_bits_of : FD := ⟨1, 2, [], [], 0, c_bits_of⟩
def f_rest_of : FD := ⟨2, 5, [], [], 0, c_rest_of⟩
def f_check_level : FD := ⟨1, 1, [], [], 0, c_check_level⟩
def f_bits_text : FD := ⟨2, 4, [], [], 0, c_bits_text⟩
def f_number_of : FD := ⟨1, 3, [], [], 0, c_number_of⟩
def f_exchanged : FD := ⟨2, 3, [], [], 0, c_exchanged⟩
def f_format_of : FD := ⟨2, 4, [], [], 0, c_format_of⟩
def f_format_bits : FD := ⟨2, 2, [], [], 0, c_format_bits⟩
def f_apart : FD := ⟨2, 3, [], [], 0, c_apart⟩
def f_nearest_format : FD := ⟨1, 7, [], [], 0, c_nearest_format⟩
def f_format_named : FD := ⟨1, 1, [], [], 0, c_format_named⟩
def f__law_mixed : FD := ⟨2, 3, [], [], 0, c__law_mixed⟩
def f__law_numbers : FD := ⟨1, 5, [], [], 0, c__law_numbers⟩
def f__law_draw : FD := ⟨2, 4, [], [0], 0, c__law_draw⟩
def f__law_equal : FD := ⟨2, 2, [], [], 0, c__law_equal⟩
def f__law_all_equal : FD := ⟨2, 3, [], [], 0, c__law_all_equal⟩
def f__law_words : FD := ⟨0, 0, [], [], 0, c__law_words⟩
def f__law_apart : FD := ⟨2, 3, [], [], 0, c__law_apart⟩
def f__law_all : FD := ⟨0, 4, [], [], 0, c__law_all⟩
def f__law_named : FD := ⟨1, 5, [], [], 0, c__law_named⟩
def f_law : FD := ⟨1, 12, [], [], 0, c_law⟩
def T : List FD := [f_is_number, f_check_number, f_is_text, f_bits_of, f_rest_of, f_check_level, f_bits_text, f_number_of, f_exchanged, f_format_of, f_format_bits, f_apart, f_nearest_format, f_format_named, f__law_mixed, f__law_numbers, f__law_draw, f__law_equal, f__law_all_equal, f__law_words, f__law_apart, f__law_all, f__law_named, f_law]
def sigs : List Sig := [⟨["value", "low", "high"], [false, false, false], [0, 0, 0], 0⟩, ⟨["value", "low", "high"], [false, false, false], [0, 0, 0], 0⟩, ⟨["value", "signs", "least", "most"], [false, false, false, false], [0, 0, 0, 0], 0⟩, ⟨["a"], [false], [0], 0⟩, ⟨["a", "b"], [false, false], [0, 0], 0⟩, ⟨["level"], [false], [0], 0⟩, ⟨["number", "many"], [false, false], [0, 0], 0⟩, ⟨["bits"], [false], [0], 0⟩, ⟨["bits", "where"], [false, false], [0, 0], 0⟩, ⟨["level", "mask"], [false, false], [0, 0], 0⟩, ⟨["level", "mask"], [false, false], [0, 0], 0⟩, ⟨["one", "other"], [false, false], [0, 0], 0⟩, ⟨["bits"], [false], [0], 0⟩, ⟨["bits"], [false], [0], 0⟩, ⟨["number", "k"], [false, false], [0, 0], 0⟩, ⟨["script"], [false], [0], 0⟩, ⟨["draws", "many"], [true, false], [1, 0], 0⟩, ⟨["actual", "due"], [false, false], [0, 0], 0⟩, ⟨["actual", "due"], [false, false], [0, 0], 0⟩, ⟨[], [], [], 0⟩, ⟨["one", "other"], [false, false], [0, 0], 0⟩, ⟨[], [], [], 0⟩, ⟨["bits"], [false], [0], 0⟩]
structure Gs (K : PySem.W.Frag) (w : World) (mg : Str → Option Value) : Prop where
  m_ScanError : mg "ScanError" = some (.ref ((dm K).xa 0))
  m_BadText : mg "BadText" = some (.ref ((dm K).xa 1))
  m_BadArgument : mg "BadArgument" = some (.ref ((dm K).xa 2))
  m_is_number : mg "is_number" = some (.ref ((dm K).fa 0))
  m_check_number : mg "check_number" = some (.ref ((dm K).fa 1))
  m_is_text : mg "is_text" = some (.ref ((dm K).fa 2))
  m_bits_of : mg "bits_of" = some (.ref ((dm K).fa 3))
  m_rest_of : mg "rest_of" = some (.ref ((dm K).fa 4))
  m_LEVELS : mg "LEVELS" = some (.ref (He.ga K "LEVELS"))
  m_LEVEL_BITS : mg "LEVEL_BITS" = some (.ref (He.ga K "LEVEL_BITS"))
  m_FORMAT_POLY : ∃ t, mg "FORMAT_POLY" = some (.int 1335 t)
  m_FORMAT_MASK : ∃ t, mg "FORMAT_MASK" = some (.str "101010000010010" t)
  m_check_level : mg "check_level" = some (.ref ((dm K).fa 5))
  m_bits_text : mg "bits_text" = some (.ref ((dm K).fa 6))
  m_number_of : mg "number_of" = some (.ref ((dm K).fa 7))
  m_exchanged : mg "exchanged" = some (.ref ((dm K).fa 8))
  m_format_of : mg "format_of" = some (.ref ((dm K).fa 9))
  m_format_bits : mg "format_bits" = some (.ref ((dm K).fa 10))
  m_apart : mg "apart" = some (.ref ((dm K).fa 11))
  m_nearest_format : mg "nearest_format" = some (.ref ((dm K).fa 12))
  m_format_named : mg "format_named" = some (.ref ((dm K).fa 13))
  m__law_mixed : mg "_law_mixed" = some (.ref ((dm K).fa 14))
  m__law_numbers : mg "_law_numbers" = some (.ref ((dm K).fa 15))
  m__law_draw : mg "_law_draw" = some (.ref ((dm K).fa 16))
  m__law_equal : mg "_law_equal" = some (.ref ((dm K).fa 17))
  m__law_all_equal : mg "_law_all_equal" = some (.ref ((dm K).fa 18))
  m__law_words : mg "_law_words" = some (.ref ((dm K).fa 19))
  m__law_apart : mg "_law_apart" = some (.ref ((dm K).fa 20))
  m__law_all : mg "_law_all" = some (.ref ((dm K).fa 21))
  m__law_named : mg "_law_named" = some (.ref ((dm K).fa 22))
  m_law : mg "law" = some (.ref ((dm K).fa 23))
  m_bool : mg "bool" = none
  m_int : mg "int" = none
  m_isinstance : mg "isinstance" = none
  m_len : mg "len" = none
  m_list : mg "list" = none
  m_min : mg "min" = none
  m_range : mg "range" = none
  m_sorted : mg "sorted" = none
  m_str : mg "str" = none
  m_tuple : mg "tuple" = none
  x_ScanError : PySem.W.excIn K ((dm K).xa 0) He.veBase "ValueError.__new__" = true ∧ PySem.W.keepIn K (.ref ((dm K).xa 0)) = true ∧ PySem.W.subIn K (.ref ((dm K).xa 0)) (.type "BaseException") = some true ∧ PySem.W.typeIn K (.ref ((dm K).xa 0)) = some (.type "type")
  x_BadText : PySem.W.excIn K ((dm K).xa 1) He.veBase "ValueError.__new__" = true ∧ PySem.W.keepIn K (.ref ((dm K).xa 1)) = true ∧ PySem.W.subIn K (.ref ((dm K).xa 1)) (.type "BaseException") = some true ∧ PySem.W.typeIn K (.ref ((dm K).xa 1)) = some (.type "type")
  x_BadArgument : PySem.W.excIn K ((dm K).xa 2) He.veBase "ValueError.__new__" = true ∧ PySem.W.keepIn K (.ref ((dm K).xa 2)) = true ∧ PySem.W.subIn K (.ref ((dm K).xa 2)) (.type "BaseException") = some true ∧ PySem.W.typeIn K (.ref ((dm K).xa 2)) = some (.type "type")
  xm_ScanError_BadText : PySem.W.exmOne K (.ref ((dm K).xa 0)) (.ref ((dm K).xa 1)) = some false
  xm_ScanError_BadArgument : PySem.W.exmOne K (.ref ((dm K).xa 0)) (.ref ((dm K).xa 2)) = some false
  xm_BadText_BadText : PySem.W.exmOne K (.ref ((dm K).xa 1)) (.ref ((dm K).xa 1)) = some true
  xm_BadText_BadArgument : PySem.W.exmOne K (.ref ((dm K).xa 1)) (.ref ((dm K).xa 2)) = some false
  xm_BadArgument_BadText : PySem.W.exmOne K (.ref ((dm K).xa 2)) (.ref ((dm K).xa 1)) = some false
  xm_BadArgument_BadArgument : PySem.W.exmOne K (.ref ((dm K).xa 2)) (.ref ((dm K).xa 2)) = some true
  v_LEVELS : ∀ G, RepV (dm K) G k_LEVELS (.ref (He.ga K "LEVELS"))
  t_LEVELS : TupC (dm K).K "LEVELS"
  k_LEVEL_BITS : KdT K w (He.ga K "LEVEL_BITS") [([76], [48, 49]), ([77], [48, 48]), ([81], [49, 49]), ([72], [49, 48])]
section
variable {P : Program} {w : World} {K : PySem.W.Frag} {mg : Str → Option Value} {base : Heap}
theorem sc_is_number : FnScope ["value", "low", "high"] ["value", "low", "high"] (defScope s_is_number) := ⟨rfl, rfl, rfl, by decide +kernel, rfl, by decide +kernel, by decide +kernel⟩
theorem b_is_number (g : Gs K w mg) {n : Nat} (ok : AllOk P w K mg base (dm K) T sigs n) (fa : Addr) (cdv : Value) (A : Around) (outer : List PySem.Env) (s : Shared) (H : Hp) (E : XK) (hr : Room n (A.deeper (envOfC "is_number" (defScope s_is_number) s.heap.objs.size fa cdv))) :
    SSs (dm K) (cxOf (CX P w) P w K mg base ["value", "low", "high"] "is_number" (defScope s_is_number) fa cdv A outer s H E) (callF T n) (fun cls d _ H => E cls d H) (baseM [false, false, false] [0, 0, 0]) [] 0 (posT [false, false, false] 0) ([0, 0, 0] ++ List.replicate 0 0) [0, 0, 0] c_is_number (defBody s_is_number) := by
  have tk : Takes (cxOf (CX P w) P w K mg base ["value", "low", "high"] "is_number" (defScope s_is_number) fa cdv A outer s H E) (fun cls d _ H => E cls d H) := takes_of rfl rfl rfl rfl
  have po : PassesOwn (model P w) (A.deeper (envOfC "is_number" (defScope s_is_number) s.heap.objs.size fa cdv)) (envOfC "is_number" (defScope s_is_number) s.heap.objs.size fa cdv) (cxOf (CX P w) P w K mg base ["value", "low", "high"] "is_number" (defScope s_is_number) fa cdv A outer s H E).xe := passes_of (X := cxOf (CX P w) P w K mg base ["value", "low", "high"] "is_number" (defScope s_is_number) fa cdv A outer s H E) rfl
  exact (ss_cons (ss_ret rfl (SE.own0 (s_an rfl (s_isi rfl (t := .int) rfl rfl g.m_isinstance rfl g.m_int (s_var (i := 0) rfl (Or.inl rfl) rfl rfl rfl) rfl rfl) (s_an rfl (s_nt rfl (s_isi rfl (t := .bool) rfl rfl g.m_isinstance rfl g.m_bool (s_var (i := 0) rfl (Or.inl rfl) rfl rfl rfl) rfl rfl) rfl) (s_one (s_chn rfl (hu65 hr) (o1 := .le) (o2 := .le) rfl rfl (s_var (i := 1) rfl (Or.inl rfl) rfl rfl rfl) (s_var (i := 0) rfl (Or.inl rfl) rfl rfl rfl) (s_var (i := 2) rfl (Or.inl rfl) rfl rfl rfl) rfl rfl rfl rfl rfl))))) rfl) ss_nil)
theorem sc_check_number : FnScope ["value", "low", "high"] ["value", "low", "high"] (defScope s_check_number) := ⟨rfl, rfl, rfl, by decide +kernel, rfl, by decide +kernel, by decide +kernel⟩
theorem b_check_number (g : Gs K w mg) {n : Nat} (ok : AllOk P w K mg base (dm K) T sigs n) (fa : Addr) (cdv : Value) (A : Around) (outer : List PySem.Env) (s : Shared) (H : Hp) (E : XK) (hr : Room n (A.deeper (envOfC "check_number" (defScope s_check_number) s.heap.objs.size fa cdv))) :
    SSs (dm K) (cxOf (CX P w) P w K mg base ["value", "low", "high"] "check_number" (defScope s_check_number) fa cdv A outer s H E) (callF T n) (fun cls d _ H => E cls d H) (baseM [false, false, false] [0, 0, 0]) [] 0 (posT [false, false, false] 0) ([0, 0, 0] ++ List.replicate 0 0) [0, 0, 0] c_check_number (defBody s_check_number) := by
  have tk : Takes (cxOf (CX P w) P w K mg base ["value", "low", "high"] "check_number" (defScope s_check_number) fa cdv A outer s H E) (fun cls d _ H => E cls d H) := takes_of rfl rfl rfl rfl
  have po : PassesOwn (model P w) (A.deeper (envOfC "check_number" (defScope s_check_number) s.heap.objs.size fa cdv)) (envOfC "check_number" (defScope s_check_number) s.heap.objs.size fa cdv) (cxOf (CX P w) P w K mg base ["value", "low", "high"] "check_number" (defScope s_check_number) fa cdv A outer s H E).xe := passes_of (X := cxOf (CX P w) P w K mg base ["value", "low", "high"] "check_number" (defScope s_check_number) fa cdv A outer s H E) rfl
  exact (ss_cons (ms1 := [0, 0, 0]) (ss_ite (st_nt (st_tr rfl (SE.give (s_callA (f := 0) (ks := [none, none, none]) ok rfl hr rfl g.m_is_number tk (av_v rfl (s_var (i := 0) rfl (Or.inl rfl) rfl rfl rfl) (av_v rfl (s_var (i := 1) rfl (Or.inl rfl) rfl rfl rfl) (av_v rfl (s_var (i := 2) rfl (Or.inl rfl) rfl rfl rfl) av_nil rfl) rfl) rfl) rfl rfl rfl rfl rfl rfl)) rfl (fun _ => rfl))) (ss_cons (ss_raise rfl tk (s_mkx g.x_BadArgument g.m_BadArgument rfl rfl) rfl) ss_nil) ss_nil rfl) ss_nil)
theorem sc_is_text : FnScope ["value", "signs", "least", "most", "sign"] ["value", "signs", "least", "most"] (defScope s_is_text) := ⟨rfl, rfl, rfl, by decide +kernel, rfl, by decide +kernel, by decide +kernel⟩
theorem b_is_text (g : Gs K w mg) {n : Nat} (ok : AllOk P w K mg base (dm K) T sigs n) (fa : Addr) (cdv : Value) (A : Around) (outer : List PySem.Env) (s : Shared) (H : Hp) (E : XK) (hr : Room n (A.deeper (envOfC "is_text" (defScope s_is_text) s.heap.objs.size fa cdv))) :
    SSs (dm K) (cxOf (CX P w) P w K mg base ["value", "signs", "least", "most", "sign"] "is_text" (defScope s_is_text) fa cdv A outer s H E) (callF T n) (fun cls d _ H => E cls d H) (baseM [false, false, false, false] [0, 0, 0, 0]) [] 0 (posT [false, false, false, false] 0) ([0, 0, 0, 0] ++ List.replicate 1 0) [0, 0, 0, 0, 0] c_is_text (defBody s_is_text) := by
  have tk : Takes (cxOf (CX P w) P w K mg base ["value", "signs", "least", "most", "sign"] "is_text" (defScope s_is_text) fa cdv A outer s H E) (fun cls d _ H => E cls d H) := takes_of rfl rfl rfl rfl
  have po : PassesOwn (model P w) (A.deeper (envOfC "is_text" (defScope s_is_text) s.heap.objs.size fa cdv)) (envOfC "is_text" (defScope s_is_text) s.heap.objs.size fa cdv) (cxOf (CX P w) P w K mg base ["value", "signs", "least", "most", "sign"] "is_text" (defScope s_is_text) fa cdv A outer s H E).xe := passes_of (X := cxOf (CX P w) P w K mg base ["value", "signs", "least", "most", "sign"] "is_text" (defScope s_is_text) fa cdv A outer s H E) rfl
  exact (ss_cons (ms1 := [0, 0, 0, 0, 0]) (ss_ite (st_w (sw_or (st_nt (st_tr rfl (s_isi rfl (t := .str) rfl rfl g.m_isinstance rfl g.m_str (s_var (i := 0) rfl (Or.inl rfl) rfl rfl rfl) rfl rfl) rfl (fun _ => rfl))) (sw_one (st_nt (st_chn rfl (hu65 hr) (o1 := .le) (o2 := .le) rfl rfl (s_var (i := 2) rfl (Or.inl rfl) rfl rfl rfl) (SE.give (s_b1 rfl rfl (q := .len) rfl rfl g.m_len (s_var (i := 0) rfl (Or.inl rfl) rfl rfl rfl) rfl rfl)) (s_var (i := 3) rfl (Or.inl rfl) rfl rfl rfl) rfl rfl rfl rfl rfl))))) (ss_cons (ss_ret rfl (SE.own0 s_bl) rfl) ss_nil) ss_nil rfl) (ss_cons (ss_ret rfl (SE.own0 (s_cmp rfl (hu65 hr) (op := .eq) rfl (SE.give (s_cp rfl rfl sc_is_text.nd (ow := [("sign", 4)]) rfl (si_s (s_var (i := 0) rfl (Or.inl rfl) rfl rfl rfl) rfl) (blkOk_by rfl) (fun s H Ca cl fp => (sg_nm (i := 4) sc_is_text.nd rfl (by first | exact Or.inl rfl | exact Or.inr rfl) (by first | exact Or.inr rfl | exact Or.inl rfl) rfl)) (fun s H Ca cl fp => (sc_one (st_cmp rfl (hu65 hr) (op := .nin) rfl (s_var (i := 4) rfl (by first | exact Or.inl rfl | exact Or.inr (Or.inl rfl) | exact Or.inr (Or.inr rfl)) rfl rfl rfl) (s_var (i := 1) rfl (by first | exact Or.inl rfl | exact Or.inr (Or.inl rfl) | exact Or.inr (Or.inr rfl)) rfl rfl rfl) rfl rfl rfl))) (fun s H Ca cl fp => (s_var (i := 4) rfl (by first | exact Or.inl rfl | exact Or.inr (Or.inl rfl) | exact Or.inr (Or.inr rfl)) rfl rfl rfl)) (zeroA rfl) (subA rfl) (fun _ => rfl))) (SE.give (s_lst sa_nil rfl)) rfl rfl rfl)) rfl) ss_nil))
theorem sc_bits_of : FnScope ["a", "many"] ["a"] (defScope s_bits_of) := ⟨rfl, rfl, rfl, by decide +kernel, rfl, by decide +kernel, by decide +kernel⟩
theorem b_bits_of (g : Gs K w mg) {n : Nat} (ok : AllOk P w K mg base (dm K) T sigs n) (fa : Addr) (cdv : Value) (A : Around) (outer : List PySem.Env) (s : Shared) (H : Hp) (E : XK) (hr : Room n (A.deeper (envOfC "bits_of" (defScope s_bits_of) s.heap.objs.size fa cdv))) :
    SSs (dm K) (cxOf (CX P w) P w K mg base ["a", "many"] "bits_of" (defScope s_bits_of) fa cdv A outer s H E) (callF T n) (fun cls d _ H => E cls d H) (baseM [false] [0]) [] 0 (posT [false] 0) ([0] ++ List.replicate 1 0) [0, 0] c_bits_of (defBody s_bits_of) := by
  have tk : Takes (cxOf (CX P w) P w K mg base ["a", "many"] "bits_of" (defScope s_bits_of) fa cdv A outer s H E) (fun cls d _ H => E cls d H) := takes_of rfl rfl rfl rfl
  have po : PassesOwn (model P w) (A.deeper (envOfC "bits_of" (defScope s_bits_of) s.heap.objs.size fa cdv)) (envOfC "bits_of" (defScope s_bits_of) s.heap.objs.size fa cdv) (cxOf (CX P w) P w K mg base ["a", "many"] "bits_of" (defScope s_bits_of) fa cdv A outer s H E).xe := passes_of (X := cxOf (CX P w) P w K mg base ["a", "many"] "bits_of" (defScope s_bits_of) fa cdv A outer s H E) rfl
  exact (ss_cons (ms1 := [0, 0]) (ss_set (i := 1) (n := 0) sc_bits_of.nd ⟨rfl, (Or.inl rfl), Or.inl rfl⟩ (ltb rfl) (nmem rfl) rfl (SE.own0 s_int) rfl) (ss_cons (ms1 := [0, 0]) (ss_whl po (st_cmp rfl (hu65 hr) (op := .gt) rfl (s_var (i := 0) rfl (Or.inl rfl) rfl rfl rfl) s_int rfl rfl rfl) (ss_cons (ms1 := [0, 0]) (ss_set (i := 0) (n := 0) sc_bits_of.nd ⟨rfl, (Or.inl rfl), Or.inl rfl⟩ (ltb rfl) (nmem rfl) rfl (SE.own0 (SE.give (s_bin rfl (op := .fdiv) rfl (s_var (i := 0) rfl (Or.inl rfl) rfl rfl rfl) s_int rfl rfl))) rfl) (ss_cons (ms1 := [0, 0]) (ss_aug (i := 1) (op := .add) rfl (Or.inl rfl) sc_bits_of.nd ⟨rfl, (Or.inl rfl), Or.inl rfl⟩ rfl (nmem rfl) rfl s_int rfl) ss_nil)) rfl) (ss_cons (ss_ret rfl (SE.own0 (s_var (i := 1) rfl (Or.inl rfl) rfl rfl rfl)) rfl) ss_nil)))
theorem sc_rest_of : FnScope ["a", "b", "size", "shifted", "k"] ["a", "b"] (defScope s_rest_of) := ⟨rfl, rfl, rfl, by decide +kernel, rfl, by decide +kernel, by decide +kernel⟩
theorem b_rest_of (g : Gs K w mg) {n : Nat} (ok : AllOk P w K mg base (dm K) T sigs n) (fa : Addr) (cdv : Value) (A : Around) (outer : List PySem.Env) (s : Shared) (H : Hp) (E : XK) (hr : Room n (A.deeper (envOfC "rest_of" (defScope s_rest_of) s.heap.objs.size fa cdv))) :
    SSs (dm K) (cxOf (CX P w) P w K mg base ["a", "b", "size", "shifted", "k"] "rest_of" (defScope s_rest_of) fa cdv A outer s H E) (callF T n) (fun cls d _ H => E cls d H) (baseM [false, false] [0, 0]) [] 0 (posT [false, false] 0) ([0, 0] ++ List.replicate 3 0) [0, 0, 0, 0, 0] c_rest_of (defBody s_rest_of) := by
  have tk : Takes (cxOf (CX P w) P w K mg base ["a", "b", "size", "shifted", "k"] "rest_of" (defScope s_rest_of) fa cdv A outer s H E) (fun cls d _ H => E cls d H) := takes_of rfl rfl rfl rfl
  have po : PassesOwn (model P w) (A.deeper (envOfC "rest_of" (defScope s_rest_of) s.heap.objs.size fa cdv)) (envOfC "rest_of" (defScope s_rest_of) s.heap.objs.size fa cdv) (cxOf (CX P w) P w K mg base ["a", "b", "size", "shifted", "k"] "rest_of" (defScope s_rest_of) fa cdv A outer s H E).xe := passes_of (X := cxOf (CX P w) P w K mg base ["a", "b", "size", "shifted", "k"] "rest_of" (defScope s_rest_of) fa cdv A outer s H E) rfl
  exact (ss_cons (ms1 := [0, 0, 0, 0, 0]) (ss_set (i := 2) (n := 0) sc_rest_of.nd ⟨rfl, (Or.inl rfl), Or.inl rfl⟩ (ltb rfl) (nmem rfl) rfl (SE.own0 (SE.give (s_callA (f := 3) (ks := [none]) ok rfl hr rfl g.m_bits_of tk (av_v rfl (s_var (i := 1) rfl (Or.inl rfl) rfl rfl rfl) av_nil rfl) rfl rfl rfl rfl rfl rfl))) rfl) (ss_cons (ms1 := [0, 0, 0, 0, 0]) (ss_whl po (st_cmp rfl (hu65 hr) (op := .ge) rfl (SE.give (s_callA (f := 3) (ks := [none]) ok rfl hr rfl g.m_bits_of tk (av_v rfl (s_var (i := 0) rfl (Or.inl rfl) rfl rfl rfl) av_nil rfl) rfl rfl rfl rfl rfl rfl)) (s_var (i := 2) rfl (Or.inl rfl) rfl rfl rfl) rfl rfl rfl) (ss_cons (ms1 := [0, 0, 0, 0, 0]) (ss_set (i := 3) (n := 0) sc_rest_of.nd ⟨rfl, (Or.inl rfl), Or.inl rfl⟩ (ltb rfl) (nmem rfl) rfl (SE.own0 (s_var (i := 1) rfl (Or.inl rfl) rfl rfl rfl)) rfl) (ss_cons (ms1 := [0, 0, 0, 0, 0]) (ss_fr po rfl (si_r1 rfl rfl g.m_range (SE.give (s_bin rfl (op := .sub) rfl (SE.give (s_callA (f := 3) (ks := [none]) ok rfl hr rfl g.m_bits_of tk (av_v rfl (s_var (i := 0) rfl (Or.inl rfl) rfl rfl rfl) av_nil rfl) rfl rfl rfl rfl rfl rfl)) (s_var (i := 2) rfl (Or.inl rfl) rfl rfl rfl) rfl rfl)) rfl rfl) (sg_nm (i := 4) sc_rest_of.nd rfl (Or.inl rfl) (Or.inl rfl) rfl) (ss_cons (ms1 := [0, 0, 0, 0, 0]) (ss_set (i := 3) (n := 0) sc_rest_of.nd ⟨rfl, (Or.inl rfl), Or.inl rfl⟩ (ltb rfl) (nmem rfl) rfl (SE.own0 (SE.give (s_bin rfl (op := .mul) rfl (s_var (i := 3) rfl (Or.inl rfl) rfl rfl rfl) s_int rfl rfl))) rfl) ss_nil) rfl (nmemA rfl) (fun _ => rfl)) (ss_cons (ms1 := [0, 0, 0, 0, 0]) (ss_set (i := 0) (n := 0) sc_rest_of.nd ⟨rfl, (Or.inl rfl), Or.inl rfl⟩ (ltb rfl) (nmem rfl) rfl (SE.own0 (SE.give (s_bin rfl (op := .bxor) rfl (s_var (i := 0) rfl (Or.inl rfl) rfl rfl rfl) (s_var (i := 3) rfl (Or.inl rfl) rfl rfl rfl) rfl rfl))) rfl) ss_nil))) rfl) (ss_cons (ss_ret rfl (SE.own0 (s_var (i := 0) rfl (Or.inl rfl) rfl rfl rfl)) rfl) ss_nil)))
theorem sc_check_level : FnScope ["level"] ["level"] (defScope s_check_level) := ⟨rfl, rfl, rfl, by decide +kernel, rfl, by decide +kernel, by decide +kernel⟩
theorem b_check_level (g : Gs K w mg) {n : Nat} (ok : AllOk P w K mg base (dm K) T sigs n) (fa : Addr) (cdv : Value) (A : Around) (outer : List PySem.Env) (s : Shared) (H : Hp) (E : XK) (hr : Room n (A.deeper (envOfC "check_level" (defScope s_check_level) s.heap.objs.size fa cdv))) :
    SSs (dm K) (cxOf (CX P w) P w K mg base ["level"] "check_level" (defScope s_check_level) fa cdv A outer s H E) (callF T n) (fun cls d _ H => E cls d H) (baseM [false] [0]) [] 0 (posT [false] 0) ([0] ++ List.replicate 0 0) [0] c_check_level (defBody s_check_level) := by
  have tk : Takes (cxOf (CX P w) P w K mg base ["level"] "check_level" (defScope s_check_level) fa cdv A outer s H E) (fun cls d _ H => E cls d H) := takes_of rfl rfl rfl rfl
  have po : PassesOwn (model P w) (A.deeper (envOfC "check_level" (defScope s_check_level) s.heap.objs.size fa cdv)) (envOfC "check_level" (defScope s_check_level) s.heap.objs.size fa cdv) (cxOf (CX P w) P w K mg base ["level"] "check_level" (defScope s_check_level) fa cdv A outer s H E).xe := passes_of (X := cxOf (CX P w) P w K mg base ["level"] "check_level" (defScope s_check_level) fa cdv A outer s H E) rfl
  exact (ss_cons (ms1 := [0]) (ss_ite (st_w (sw_or (st_nt (st_tr rfl (s_isi rfl (t := .str) rfl rfl g.m_isinstance rfl g.m_str (s_var (i := 0) rfl (Or.inl rfl) rfl rfl rfl) rfl rfl) rfl (fun _ => rfl))) (sw_one (st_cmp rfl (hu65 hr) (op := .nin) rfl (s_var (i := 0) rfl (Or.inl rfl) rfl rfl rfl) (s_glC rfl g.m_LEVELS g.v_LEVELS rfl) rfl rfl rfl)))) (ss_cons (ss_raise rfl tk (s_mkx g.x_BadArgument g.m_BadArgument rfl rfl) rfl) ss_nil) ss_nil rfl) ss_nil)
theorem sc_bits_text : FnScope ["number", "many", "found", "k"] ["number", "many"] (defScope s_bits_text) := ⟨rfl, rfl, rfl, by decide +kernel, rfl, by decide +kernel, by decide +kernel⟩
theorem b_bits_text (g : Gs K w mg) {n : Nat} (ok : AllOk P w K mg base (dm K) T sigs n) (fa : Addr) (cdv : Value) (A : Around) (outer : List PySem.Env) (s : Shared) (H : Hp) (E : XK) (hr : Room n (A.deeper (envOfC "bits_text" (defScope s_bits_text) s.heap.objs.size fa cdv))) :
    SSs (dm K) (cxOf (CX P w) P w K mg base ["number", "many", "found", "k"] "bits_text" (defScope s_bits_text) fa cdv A outer s H E) (callF T n) (fun cls d _ H => E cls d H) (baseM [false, false] [0, 0]) [] 0 (posT [false, false] 0) ([0, 0] ++ List.replicate 2 0) [0, 0, 0, 0] c_bits_text (defBody s_bits_text) := by
  have tk : Takes (cxOf (CX P w) P w K mg base ["number", "many", "found", "k"] "bits_text" (defScope s_bits_text) fa cdv A outer s H E) (fun cls d _ H => E cls d H) := takes_of rfl rfl rfl rfl
  have po : PassesOwn (model P w) (A.deeper (envOfC "bits_text" (defScope s_bits_text) s.heap.objs.size fa cdv)) (envOfC "bits_text" (defScope s_bits_text) s.heap.objs.size fa cdv) (cxOf (CX P w) P w K mg base ["number", "many", "found", "k"] "bits_text" (defScope s_bits_text) fa cdv A outer s H E).xe := passes_of (X := cxOf (CX P w) P w K mg base ["number", "many", "found", "k"] "bits_text" (defScope s_bits_text) fa cdv A outer s H E) rfl
  exact (ss_cons (ms1 := [0, 0, 0, 0]) (ss_set (i := 2) (n := 0) sc_bits_text.nd ⟨rfl, (Or.inl rfl), Or.inl rfl⟩ (ltb rfl) (nmem rfl) rfl (SE.own0 (s_str (t := []) rfl rfl)) rfl) (ss_cons (ms1 := [0, 0, 0, 0]) (ss_fr po rfl (si_r1 rfl rfl g.m_range (s_var (i := 1) rfl (Or.inl rfl) rfl rfl rfl) rfl rfl) (sg_nm (i := 3) sc_bits_text.nd rfl (Or.inl rfl) (Or.inl rfl) rfl) (ss_cons (ms1 := [0, 0, 0, 0]) (ss_set (i := 2) (n := 0) sc_bits_text.nd ⟨rfl, (Or.inl rfl), Or.inl rfl⟩ (ltb rfl) (nmem rfl) rfl (SE.own0 (SE.give (s_bin rfl (op := .add) rfl (SE.give (s_b1 rfl rfl (q := .str) rfl rfl g.m_str (SE.give (s_bin rfl (op := .mod) rfl (s_var (i := 0) rfl (Or.inl rfl) rfl rfl rfl) s_int rfl rfl)) rfl rfl)) (s_var (i := 2) rfl (Or.inl rfl) rfl rfl rfl) rfl rfl))) rfl) (ss_cons (ms1 := [0, 0, 0, 0]) (ss_set (i := 0) (n := 0) sc_bits_text.nd ⟨rfl, (Or.inl rfl), Or.inl rfl⟩ (ltb rfl) (nmem rfl) rfl (SE.own0 (SE.give (s_bin rfl (op := .fdiv) rfl (s_var (i := 0) rfl (Or.inl rfl) rfl rfl rfl) s_int rfl rfl))) rfl) ss_nil)) rfl (nmemA rfl) (fun _ => rfl)) (ss_cons (ss_ret rfl (SE.own0 (s_var (i := 2) rfl (Or.inl rfl) rfl rfl rfl)) rfl) ss_nil)))
theorem sc_number_of : FnScope ["bits", "found", "bit"] ["bits"] (defScope s_number_of) := ⟨rfl, rfl, rfl, by decide +kernel, rfl, by decide +kernel, by decide +kernel⟩
theorem b_number_of (g : Gs K w mg) {n : Nat} (ok : AllOk P w K mg base (dm K) T sigs n) (fa : Addr) (cdv : Value) (A : Around) (outer : List PySem.Env) (s : Shared) (H : Hp) (E : XK) (hr : Room n (A.deeper (envOfC "number_of" (defScope s_number_of) s.heap.objs.size fa cdv))) :
    SSs (dm K) (cxOf (CX P w) P w K mg base ["bits", "found", "bit"] "number_of" (defScope s_number_of) fa cdv A outer s H E) (callF T n) (fun cls d _ H => E cls d H) (baseM [false] [0]) [] 0 (posT [false] 0) ([0] ++ List.replicate 2 0) [0, 0, 0] c_number_of (defBody s_number_of) := by
  have tk : Takes (cxOf (CX P w) P w K mg base ["bits", "found", "bit"] "number_of" (defScope s_number_of) fa cdv A outer s H E) (fun cls d _ H => E cls d H) := takes_of rfl rfl rfl rfl
  have po : PassesOwn (model P w) (A.deeper (envOfC "number_of" (defScope s_number_of) s.heap.objs.size fa cdv)) (envOfC "number_of" (defScope s_number_of) s.heap.objs.size fa cdv) (cxOf (CX P w) P w K mg base ["bits", "found", "bit"] "number_of" (defScope s_number_of) fa cdv A outer s H E).xe := passes_of (X := cxOf (CX P w) P w K mg base ["bits", "found", "bit"] "number_of" (defScope s_number_of) fa cdv A outer s H E) rfl
  exact (ss_cons (ms1 := [0, 0, 0]) (ss_set (i := 1) (n := 0) sc_number_of.nd ⟨rfl, (Or.inl rfl), Or.inl rfl⟩ (ltb rfl) (nmem rfl) rfl (SE.own0 s_int) rfl) (ss_cons (ms1 := [0, 0, 0]) (ss_fr po rfl (si_s (s_var (i := 0) rfl (Or.inl rfl) rfl rfl rfl) rfl) (sg_nm (i := 2) sc_number_of.nd rfl (Or.inl rfl) (Or.inl rfl) rfl) (ss_cons (ms1 := [0, 0, 0]) (ss_set (i := 1) (n := 0) sc_number_of.nd ⟨rfl, (Or.inl rfl), Or.inl rfl⟩ (ltb rfl) (nmem rfl) rfl (SE.own0 (SE.give (s_bin rfl (op := .add) rfl (SE.give (s_bin rfl (op := .mul) rfl s_int (s_var (i := 1) rfl (Or.inl rfl) rfl rfl rfl) rfl rfl)) (s_ite (st_cmp rfl (hu65 hr) (op := .eq) rfl (s_var (i := 2) rfl (Or.inl rfl) rfl rfl rfl) (s_str (t := [49]) rfl rfl) rfl rfl rfl) s_int s_int) rfl rfl))) rfl) ss_nil) rfl (nmemA rfl) (fun _ => rfl)) (ss_cons (ss_ret rfl (SE.own0 (s_var (i := 1) rfl (Or.inl rfl) rfl rfl rfl)) rfl) ss_nil)))
theorem sc_exchanged : FnScope ["bits", "where", "k"] ["bits", "where"] (defScope s_exchanged) := ⟨rfl, rfl, rfl, by decide +kernel, rfl, by decide +kernel, by decide +kernel⟩
theorem b_exchanged (g : Gs K w mg) {n : Nat} (ok : AllOk P w K mg base (dm K) T sigs n) (fa : Addr) (cdv : Value) (A : Around) (outer : List PySem.Env) (s : Shared) (H : Hp) (E : XK) (hr : Room n (A.deeper (envOfC "exchanged" (defScope s_exchanged) s.heap.objs.size fa cdv))) :
    SSs (dm K) (cxOf (CX P w) P w K mg base ["bits", "where", "k"] "exchanged" (defScope s_exchanged) fa cdv A outer s H E) (callF T n) (fun cls d _ H => E cls d H) (baseM [false, false] [0, 0]) [] 0 (posT [false, false] 0) ([0, 0] ++ List.replicate 1 0) [0, 0, 0] c_exchanged (defBody s_exchanged) := by
  have tk : Takes (cxOf (CX P w) P w K mg base ["bits", "where", "k"] "exchanged" (defScope s_exchanged) fa cdv A outer s H E) (fun cls d _ H => E cls d H) := takes_of rfl rfl rfl rfl
  have po : PassesOwn (model P w) (A.deeper (envOfC "exchanged" (defScope s_exchanged) s.heap.objs.size fa cdv)) (envOfC "exchanged" (defScope s_exchanged) s.heap.objs.size fa cdv) (cxOf (CX P w) P w K mg base ["bits", "where", "k"] "exchanged" (defScope s_exchanged) fa cdv A outer s H E).xe := passes_of (X := cxOf (CX P w) P w K mg base ["bits", "where", "k"] "exchanged" (defScope s_exchanged) fa cdv A outer s H E) rfl
  exact (ss_cons (ss_ret rfl (SE.own0 (SE.give (s_m1 rfl (hu65 hr) (m := .join) rfl (s_str (t := []) rfl rfl) (SE.give (s_cp rfl rfl sc_exchanged.nd (ow := [("k", 2)]) rfl (si_r1 rfl rfl g.m_range (SE.give (s_b1 rfl rfl (q := .len) rfl rfl g.m_len (s_var (i := 0) rfl (Or.inr (Or.inl rfl)) rfl rfl rfl) rfl rfl)) rfl rfl) (blkOk_by rfl) (fun s H Ca cl fp => (sg_nm (i := 2) sc_exchanged.nd rfl (by first | exact Or.inl rfl | exact Or.inr rfl) (by first | exact Or.inr rfl | exact Or.inl rfl) rfl)) (fun s H Ca cl fp => sc_nil) (fun s H Ca cl fp => (s_ite (st_cmp rfl (hu65 hr) (op := .eq) rfl (s_idx rfl (hu65 hr) (s_var (i := 0) rfl (by first | exact Or.inl rfl | exact Or.inr (Or.inl rfl) | exact Or.inr (Or.inr rfl)) rfl rfl rfl) (s_var (i := 2) rfl (by first | exact Or.inl rfl | exact Or.inr (Or.inl rfl) | exact Or.inr (Or.inr rfl)) rfl rfl rfl) rfl rfl (fun _ _ => rfl)) (s_idx rfl (hu65 hr) (s_var (i := 1) rfl (by first | exact Or.inl rfl | exact Or.inr (Or.inl rfl) | exact Or.inr (Or.inr rfl)) rfl rfl rfl) (s_var (i := 2) rfl (by first | exact Or.inl rfl | exact Or.inr (Or.inl rfl) | exact Or.inr (Or.inr rfl)) rfl rfl rfl) rfl rfl (fun _ _ => rfl)) rfl rfl rfl) (s_str (t := [48]) rfl rfl) (s_str (t := [49]) rfl rfl))) (zeroA rfl) (subA rfl) (fun _ => rfl))) rfl rfl rfl rfl rfl rfl))) rfl) ss_nil)
theorem sc_format_of : FnScope ["level", "mask", "five", "rest"] ["level", "mask"] (defScope s_format_of) := ⟨rfl, rfl, rfl, by decide +kernel, rfl, by decide +kernel, by decide +kernel⟩
theorem b_format_of (g : Gs K w mg) {n : Nat} (ok : AllOk P w K mg base (dm K) T sigs n) (fa : Addr) (cdv : Value) (A : Around) (outer : List PySem.Env) (s : Shared) (H : Hp) (E : XK) (hr : Room n (A.deeper (envOfC "format_of" (defScope s_format_of) s.heap.objs.size fa cdv))) :
    SSs (dm K) (cxOf (CX P w) P w K mg base ["level", "mask", "five", "rest"] "format_of" (defScope s_format_of) fa cdv A outer s H E) (callF T n) (fun cls d _ H => E cls d H) (baseM [false, false] [0, 0]) [] 0 (posT [false, false] 0) ([0, 0] ++ List.replicate 2 0) [0, 0, 0, 0] c_format_of (defBody s_format_of) := by
  have tk : Takes (cxOf (CX P w) P w K mg base ["level", "mask", "five", "rest"] "format_of" (defScope s_format_of) fa cdv A outer s H E) (fun cls d _ H => E cls d H) := takes_of rfl rfl rfl rfl
  have po : PassesOwn (model P w) (A.deeper (envOfC "format_of" (defScope s_format_of) s.heap.objs.size fa cdv)) (envOfC "format_of" (defScope s_format_of) s.heap.objs.size fa cdv) (cxOf (CX P w) P w K mg base ["level", "mask", "five", "rest"] "format_of" (defScope s_format_of) fa cdv A outer s H E).xe := passes_of (X := cxOf (CX P w) P w K mg base ["level", "mask", "five", "rest"] "format_of" (defScope s_format_of) fa cdv A outer s H E) rfl
  exact (ss_cons (ms1 := [0, 0, 0, 0]) (ss_set (i := 2) (n := 0) sc_format_of.nd ⟨rfl, (Or.inl rfl), Or.inl rfl⟩ (ltb rfl) (nmem rfl) rfl (SE.own0 (SE.give (s_bin rfl (op := .add) rfl (s_kdix (kvs := [([76], [48, 49]), ([77], [48, 48]), ([81], [49, 49]), ([72], [49, 48])]) rfl g.m_LEVEL_BITS g.k_LEVEL_BITS rfl (s_var (i := 0) rfl (Or.inl rfl) rfl rfl rfl) rfl (fun _ _ => rfl)) (SE.give (s_callA (f := 6) (ks := [none, none]) ok rfl hr rfl g.m_bits_text tk (av_v rfl (s_var (i := 1) rfl (Or.inl rfl) rfl rfl rfl) (av_v rfl s_int av_nil rfl) rfl) rfl rfl rfl rfl rfl rfl)) rfl rfl))) rfl) (ss_cons (ms1 := [0, 0, 0, 0]) (ss_set (i := 3) (n := 0) sc_format_of.nd ⟨rfl, (Or.inl rfl), Or.inl rfl⟩ (ltb rfl) (nmem rfl) rfl (SE.own0 (SE.give (s_callA (f := 4) (ks := [none, none]) ok rfl hr rfl g.m_rest_of tk (av_v rfl (SE.give (s_callA (f := 7) (ks := [none]) ok rfl hr rfl g.m_number_of tk (av_v rfl (SE.give (s_bin rfl (op := .add) rfl (s_var (i := 2) rfl (Or.inl rfl) rfl rfl rfl) (s_str (t := [48, 48, 48, 48, 48, 48, 48, 48, 48, 48]) rfl rfl) rfl rfl)) av_nil rfl) rfl rfl rfl rfl rfl rfl)) (av_v rfl (s_glI (i := 1335) rfl g.m_FORMAT_POLY rfl) av_nil rfl) rfl) rfl rfl rfl rfl rfl rfl))) rfl) (ss_cons (ss_ret rfl (SE.own0 (SE.give (s_callA (f := 8) (ks := [none, none]) ok rfl hr rfl g.m_exchanged tk (av_v rfl (SE.give (s_bin rfl (op := .add) rfl (s_var (i := 2) rfl (Or.inl rfl) rfl rfl rfl) (SE.give (s_callA (f := 6) (ks := [none, none]) ok rfl hr rfl g.m_bits_text tk (av_v rfl (s_var (i := 3) rfl (Or.inl rfl) rfl rfl rfl) (av_v rfl s_int av_nil rfl) rfl) rfl rfl rfl rfl rfl rfl)) rfl rfl)) (av_v rfl (s_glS (l := [49, 48, 49, 48, 49, 48, 48, 48, 48, 48, 49, 48, 48, 49, 48]) rfl g.m_FORMAT_MASK rfl rfl rfl) av_nil rfl) rfl) rfl rfl rfl rfl rfl rfl))) rfl) ss_nil)))
theorem sc_format_bits : FnScope ["level", "mask"] ["level", "mask"] (defScope s_format_bits) := ⟨rfl, rfl, rfl, by decide +kernel, rfl, by decide +kernel, by decide +kernel⟩
theorem b_format_bits (g : Gs K w mg) {n : Nat} (ok : AllOk P w K mg base (dm K) T sigs n) (fa : Addr) (cdv : Value) (A : Around) (outer : List PySem.Env) (s : Shared) (H : Hp) (E : XK) (hr : Room n (A.deeper (envOfC "format_bits" (defScope s_format_bits) s.heap.objs.size fa cdv))) :
    SSs (dm K) (cxOf (CX P w) P w K mg base ["level", "mask"] "format_bits" (defScope s_format_bits) fa cdv A outer s H E) (callF T n) (fun cls d _ H => E cls d H) (baseM [false, false] [0, 0]) [] 0 (posT [false, false] 0) ([0, 0] ++ List.replicate 0 0) [0, 0] c_format_bits (defBody s_format_bits) := by
  have tk : Takes (cxOf (CX P w) P w K mg base ["level", "mask"] "format_bits" (defScope s_format_bits) fa cdv A outer s H E) (fun cls d _ H => E cls d H) := takes_of rfl rfl rfl rfl
  have po : PassesOwn (model P w) (A.deeper (envOfC "format_bits" (defScope s_format_bits) s.heap.objs.size fa cdv)) (envOfC "format_bits" (defScope s_format_bits) s.heap.objs.size fa cdv) (cxOf (CX P w) P w K mg base ["level", "mask"] "format_bits" (defScope s_format_bits) fa cdv A outer s H E).xe := passes_of (X := cxOf (CX P w) P w K mg base ["level", "mask"] "format_bits" (defScope s_format_bits) fa cdv A outer s H E) rfl
  exact (ss_cons (ms1 := [0, 0]) (ss_ex (s_callA (f := 5) (ks := [none]) ok rfl hr rfl g.m_check_level tk (av_v rfl (s_var (i := 0) rfl (Or.inl rfl) rfl rfl rfl) av_nil rfl) rfl rfl rfl rfl rfl rfl) rfl rfl) (ss_cons (ms1 := [0, 0]) (ss_ex (s_callA (f := 1) (ks := [none, none, none]) ok rfl hr rfl g.m_check_number tk (av_v rfl (s_var (i := 1) rfl (Or.inl rfl) rfl rfl rfl) (av_v rfl s_int (av_v rfl s_int av_nil rfl) rfl) rfl) rfl rfl rfl rfl rfl rfl) rfl rfl) (ss_cons (ss_ret rfl (SE.own0 (SE.give (s_callA (f := 9) (ks := [none, none]) ok rfl hr rfl g.m_format_of tk (av_v rfl (s_var (i := 0) rfl (Or.inl rfl) rfl rfl rfl) (av_v rfl (s_var (i := 1) rfl (Or.inl rfl) rfl rfl rfl) av_nil rfl) rfl) rfl rfl rfl rfl rfl rfl))) rfl) ss_nil)))
theorem sc_apart : FnScope ["one", "other", "k"] ["one", "other"] (defScope s_apart) := ⟨rfl, rfl, rfl, by decide +kernel, rfl, by decide +kernel, by decide +kernel⟩
theorem b_apart (g : Gs K w mg) {n : Nat} (ok : AllOk P w K mg base (dm K) T sigs n) (fa : Addr) (cdv : Value) (A : Around) (outer : List PySem.Env) (s : Shared) (H : Hp) (E : XK) (hr : Room n (A.deeper (envOfC "apart" (defScope s_apart) s.heap.objs.size fa cdv))) :
    SSs (dm K) (cxOf (CX P w) P w K mg base ["one", "other", "k"] "apart" (defScope s_apart) fa cdv A outer s H E) (callF T n) (fun cls d _ H => E cls d H) (baseM [false, false] [0, 0]) [] 0 (posT [false, false] 0) ([0, 0] ++ List.replicate 1 0) [0, 0, 0] c_apart (defBody s_apart) := by
  have tk : Takes (cxOf (CX P w) P w K mg base ["one", "other", "k"] "apart" (defScope s_apart) fa cdv A outer s H E) (fun cls d _ H => E cls d H) := takes_of rfl rfl rfl rfl
  have po : PassesOwn (model P w) (A.deeper (envOfC "apart" (defScope s_apart) s.heap.objs.size fa cdv)) (envOfC "apart" (defScope s_apart) s.heap.objs.size fa cdv) (cxOf (CX P w) P w K mg base ["one", "other", "k"] "apart" (defScope s_apart) fa cdv A outer s H E).xe := passes_of (X := cxOf (CX P w) P w K mg base ["one", "other", "k"] "apart" (defScope s_apart) fa cdv A outer s H E) rfl
  exact (ss_cons (ss_ret rfl (SE.own0 (SE.give (s_b1 rfl rfl (q := .len) rfl rfl g.m_len (SE.give (s_cp rfl rfl sc_apart.nd (ow := [("k", 2)]) rfl (si_r1 rfl rfl g.m_range (SE.give (s_b1 rfl rfl (q := .len) rfl rfl g.m_len (s_var (i := 0) rfl (Or.inr (Or.inl rfl)) rfl rfl rfl) rfl rfl)) rfl rfl) (blkOk_by rfl) (fun s H Ca cl fp => (sg_nm (i := 2) sc_apart.nd rfl (by first | exact Or.inl rfl | exact Or.inr rfl) (by first | exact Or.inr rfl | exact Or.inl rfl) rfl)) (fun s H Ca cl fp => (sc_one (st_cmp rfl (hu65 hr) (op := .ne) rfl (s_idx rfl (hu65 hr) (s_var (i := 0) rfl (by first | exact Or.inl rfl | exact Or.inr (Or.inl rfl) | exact Or.inr (Or.inr rfl)) rfl rfl rfl) (s_var (i := 2) rfl (by first | exact Or.inl rfl | exact Or.inr (Or.inl rfl) | exact Or.inr (Or.inr rfl)) rfl rfl rfl) rfl rfl (fun _ _ => rfl)) (s_idx rfl (hu65 hr) (s_var (i := 1) rfl (by first | exact Or.inl rfl | exact Or.inr (Or.inl rfl) | exact Or.inr (Or.inr rfl)) rfl rfl rfl) (s_var (i := 2) rfl (by first | exact Or.inl rfl | exact Or.inr (Or.inl rfl) | exact Or.inr (Or.inr rfl)) rfl rfl rfl) rfl rfl (fun _ _ => rfl)) rfl rfl rfl))) (fun s H Ca cl fp => (s_var (i := 2) rfl (by first | exact Or.inl rfl | exact Or.inr (Or.inl rfl) | exact Or.inr (Or.inr rfl)) rfl rfl rfl)) (zeroA rfl) (subA rfl) (fun _ => rfl))) rfl rfl))) rfl) ss_nil)
theorem sc_nearest_format : FnScope ["bits", "found", "level", "mask", "least", "told", "near"] ["bits"] (defScope s_nearest_format) := ⟨rfl, rfl, rfl, by decide +kernel, rfl, by decide +kernel, by decide +kernel⟩
theorem b_nearest_format (g : Gs K w mg) {n : Nat} (ok : AllOk P w K mg base (dm K) T sigs n) (fa : Addr) (cdv : Value) (A : Around) (outer : List PySem.Env) (s : Shared) (H : Hp) (E : XK) (hr : Room n (A.deeper (envOfC "nearest_format" (defScope s_nearest_format) s.heap.objs.size fa cdv))) :
    SSs (dm K) (cxOf (CX P w) P w K mg base ["bits", "found", "level", "mask", "least", "told", "near"] "nearest_format" (defScope s_nearest_format) fa cdv A outer s H E) (callF T n) (fun cls d _ H => E cls d H) (baseM [false] [0]) [] 0 (posT [false] 0) ([0] ++ List.replicate 6 0) [0, 0, 0, 0, 0, 0, 0] c_nearest_format (defBody s_nearest_format) := by
  have tk : Takes (cxOf (CX P w) P w K mg base ["bits", "found", "level", "mask", "least", "told", "near"] "nearest_format" (defScope s_nearest_format) fa cdv A outer s H E) (fun cls d _ H => E cls d H) := takes_of rfl rfl rfl rfl
  have po : PassesOwn (model P w) (A.deeper (envOfC "nearest_format" (defScope s_nearest_format) s.heap.objs.size fa cdv)) (envOfC "nearest_format" (defScope s_nearest_format) s.heap.objs.size fa cdv) (cxOf (CX P w) P w K mg base ["bits", "found", "level", "mask", "least", "told", "near"] "nearest_format" (defScope s_nearest_format) fa cdv A outer s H E).xe := passes_of (X := cxOf (CX P w) P w K mg base ["bits", "found", "level", "mask", "least", "told", "near"] "nearest_format" (defScope s_nearest_format) fa cdv A outer s H E) rfl
  exact (ss_cons (ms1 := [0, 0, 0, 0, 0, 0, 0]) (ss_set (i := 1) (n := 0) sc_nearest_format.nd ⟨rfl, (Or.inl rfl), Or.inl rfl⟩ (ltb rfl) (nmem rfl) rfl (SE.own0 (SE.give (s_lst sa_nil rfl))) rfl) (ss_cons (ms1 := [0, 0, 0, 0, 0, 0, 0]) (ss_fr po rfl (si_t rfl (s_glC rfl g.m_LEVELS g.v_LEVELS rfl)) (sg_nm (i := 2) sc_nearest_format.nd rfl (Or.inr rfl) (Or.inl rfl) rfl) (ss_cons (ms1 := [0, 0, 0, 0, 0, 0, 0]) (ss_set (i := 1) (n := 0) sc_nearest_format.nd ⟨rfl, (Or.inl rfl), Or.inl rfl⟩ (ltb rfl) (nmem rfl) rfl (SE.own0 (SE.give (s_bin rfl (op := .add) rfl (s_var (i := 1) rfl (Or.inl rfl) rfl rfl rfl) (SE.give (s_cp rfl rfl sc_nearest_format.nd (ow := [("mask", 3)]) rfl (si_r1 rfl rfl g.m_range s_int rfl rfl) (blkOk_by rfl) (fun s H Ca cl fp => (sg_nm (i := 3) sc_nearest_format.nd rfl (by first | exact Or.inl rfl | exact Or.inr rfl) (by first | exact Or.inr rfl | exact Or.inl rfl) rfl)) (fun s H Ca cl fp => sc_nil) (fun s H Ca cl fp => (s_tup (sa_cons (SE.give (s_callA (f := 11) (ks := [none, none]) ok rfl hr rfl g.m_apart takes0 (av_v rfl (s_var (i := 0) rfl (by first | exact Or.inl rfl | exact Or.inr (Or.inl rfl) | exact Or.inr (Or.inr rfl)) rfl rfl rfl) (av_v rfl (SE.give (s_callA (f := 9) (ks := [none, none]) ok rfl hr rfl g.m_format_of takes0 (av_v rfl (s_var (i := 2) rfl (by first | exact Or.inl rfl | exact Or.inr (Or.inl rfl) | exact Or.inr (Or.inr rfl)) rfl rfl rfl) (av_v rfl (s_var (i := 3) rfl (by first | exact Or.inl rfl | exact Or.inr (Or.inl rfl) | exact Or.inr (Or.inr rfl)) rfl rfl rfl) av_nil rfl) rfl) rfl rfl rfl rfl rfl rfl)) av_nil rfl) rfl) rfl rfl rfl rfl rfl rfl)) (sa_cons (s_var (i := 2) rfl (by first | exact Or.inl rfl | exact Or.inr (Or.inl rfl) | exact Or.inr (Or.inr rfl)) rfl rfl rfl) (sa_cons (s_var (i := 3) rfl (by first | exact Or.inl rfl | exact Or.inr (Or.inl rfl) | exact Or.inr (Or.inr rfl)) rfl rfl rfl) sa_nil rfl) rfl) rfl) rfl)) (zeroA rfl) (subA rfl) (fun _ => rfl))) rfl rfl))) rfl) ss_nil) rfl (nmemA rfl) (fun _ => rfl)) (ss_cons (ms1 := [0, 0, 0, 0, 0, 0, 0]) (ss_set (i := 4) (n := 0) sc_nearest_format.nd ⟨rfl, (Or.inr rfl), Or.inl rfl⟩ (ltb rfl) (nmem rfl) rfl (SE.own0 (SE.give (s_b1 rfl rfl (q := .min) rfl rfl g.m_min (SE.give (s_cp rfl rfl sc_nearest_format.nd (ow := [("told", 5)]) rfl (si_l rfl (s_var (i := 1) rfl (Or.inl rfl) rfl rfl rfl)) (blkOk_by rfl) (fun s H Ca cl fp => (sg_nm (i := 5) sc_nearest_format.nd rfl (by first | exact Or.inl rfl | exact Or.inr rfl) (by first | exact Or.inr rfl | exact Or.inl rfl) rfl)) (fun s H Ca cl fp => sc_nil) (fun s H Ca cl fp => (s_idx rfl (hu65 hr) (s_var (i := 5) rfl (by first | exact Or.inl rfl | exact Or.inr (Or.inl rfl) | exact Or.inr (Or.inr rfl)) rfl rfl rfl) s_int rfl rfl (fun _ _ => rfl))) (zeroA rfl) (subA rfl) (fun _ => rfl))) rfl rfl))) rfl) (ss_cons (ms1 := [0, 0, 0, 0, 0, 0, 0]) (SS.post (ms1 := [0, 0, 0, 0, 0, 0, 1]) (ss_setLc (i := 6) rfl sc_nearest_format.nd rfl rfl (ltb rfl) (nmem rfl) rfl rfl (ow := [("told", 5)]) rfl (si_l rfl (s_var (i := 1) rfl (Or.inl rfl) rfl rfl rfl)) (blkOk_by rfl) (fun s H Ca cl fp => (sg_nm (i := 5) sc_nearest_format.nd rfl (by first | exact Or.inl rfl | exact Or.inr rfl) (by first | exact Or.inr rfl | exact Or.inl rfl) rfl)) (fun s H Ca cl fp => (sc_one (st_cmp rfl (hu65 hr) (op := .eq) rfl (s_idx rfl (hu65 hr) (s_var (i := 5) rfl (by first | exact Or.inl rfl | exact Or.inr (Or.inl rfl) | exact Or.inr (Or.inr rfl)) rfl rfl rfl) s_int rfl rfl (fun _ _ => rfl)) (s_var (i := 4) rfl (by first | exact Or.inl rfl | exact Or.inr (Or.inl rfl) | exact Or.inr (Or.inr rfl)) rfl rfl rfl) rfl rfl rfl))) (fun s H Ca cl fp => (s_var (i := 5) rfl (by first | exact Or.inl rfl | exact Or.inr (Or.inl rfl) | exact Or.inr (Or.inr rfl)) rfl rfl rfl)) (zeroA rfl) (subA rfl) (fun _ => rfl)) rfl) (ss_cons (ss_ret rfl (SE.own0 (s_ite (st_w (sw_an (st_cmp rfl (hu65 hr) (op := .eq) rfl (SE.give (s_b1 rfl rfl (q := .len) rfl rfl g.m_len (s_var (i := 6) rfl (Or.inl rfl) rfl rfl rfl) rfl rfl)) s_int rfl rfl rfl) (sw_one (st_cmp rfl (hu65 hr) (op := .le) rfl (s_var (i := 4) rfl (Or.inr (Or.inl rfl)) rfl rfl rfl) s_int rfl rfl rfl)))) (s_tup (sa_cons (s_str (t := [114, 101, 97, 100]) rfl rfl) (sa_cons (s_idx rfl (hu65 hr) (s_idx rfl (hu65 hr) (s_var (i := 6) rfl (Or.inl rfl) rfl rfl rfl) s_int rfl rfl (fun _ _ => rfl)) s_int rfl rfl (fun _ _ => rfl)) (sa_cons (s_idx rfl (hu65 hr) (s_idx rfl (hu65 hr) (s_var (i := 6) rfl (Or.inl rfl) rfl rfl rfl) s_int rfl rfl (fun _ _ => rfl)) s_int rfl rfl (fun _ _ => rfl)) (sa_cons (s_var (i := 4) rfl (Or.inr (Or.inl rfl)) rfl rfl rfl) sa_nil rfl) rfl) rfl) rfl) rfl) s_non)) rfl) ss_nil)))))
theorem sc_format_named : FnScope ["bits"] ["bits"] (defScope s_format_named) := ⟨rfl, rfl, rfl, by decide +kernel, rfl, by decide +kernel, by decide +kernel⟩
theorem b_format_named (g : Gs K w mg) {n : Nat} (ok : AllOk P w K mg base (dm K) T sigs n) (fa : Addr) (cdv : Value) (A : Around) (outer : List PySem.Env) (s : Shared) (H : Hp) (E : XK) (hr : Room n (A.deeper (envOfC "format_named" (defScope s_format_named) s.heap.objs.size fa cdv))) :
    SSs (dm K) (cxOf (CX P w) P w K mg base ["bits"] "format_named" (defScope s_format_named) fa cdv A outer s H E) (callF T n) (fun cls d _ H => E cls d H) (baseM [false] [0]) [] 0 (posT [false] 0) ([0] ++ List.replicate 0 0) [0] c_format_named (defBody s_format_named) := by
  have tk : Takes (cxOf (CX P w) P w K mg base ["bits"] "format_named" (defScope s_format_named) fa cdv A outer s H E) (fun cls d _ H => E cls d H) := takes_of rfl rfl rfl rfl
  have po : PassesOwn (model P w) (A.deeper (envOfC "format_named" (defScope s_format_named) s.heap.objs.size fa cdv)) (envOfC "format_named" (defScope s_format_named) s.heap.objs.size fa cdv) (cxOf (CX P w) P w K mg base ["bits"] "format_named" (defScope s_format_named) fa cdv A outer s H E).xe := passes_of (X := cxOf (CX P w) P w K mg base ["bits"] "format_named" (defScope s_format_named) fa cdv A outer s H E) rfl
  exact (ss_cons (ms1 := [0]) (ss_ite (st_nt (st_tr rfl (SE.give (s_callA (f := 2) (ks := [none, none, none, none]) ok rfl hr rfl g.m_is_text tk (av_v rfl (s_var (i := 0) rfl (Or.inl rfl) rfl rfl rfl) (av_v rfl (s_str (t := [48, 49]) rfl rfl) (av_v rfl s_int (av_v rfl s_int av_nil rfl) rfl) rfl) rfl) rfl rfl rfl rfl rfl rfl)) rfl (fun _ => rfl))) (ss_cons (ss_raise rfl tk (s_mkx g.x_BadText g.m_BadText rfl rfl) rfl) ss_nil) ss_nil rfl) (ss_cons (ss_ret rfl (SE.own0 (SE.give (s_callA (f := 12) (ks := [none]) ok rfl hr rfl g.m_nearest_format tk (av_v rfl (s_var (i := 0) rfl (Or.inl rfl) rfl rfl rfl) av_nil rfl) rfl rfl rfl rfl rfl rfl))) rfl) ss_nil))
theorem sc__law_mixed : FnScope ["number", "k", "step"] ["number", "k"] (defScope s__law_mixed) := ⟨rfl, rfl, rfl, by decide +kernel, rfl, by decide +kernel, by decide +kernel⟩
theorem b__law_mixed (g : Gs K w mg) {n : Nat} (ok : AllOk P w K mg base (dm K) T sigs n) (fa : Addr) (cdv : Value) (A : Around) (outer : List PySem.Env) (s : Shared) (H : Hp) (E : XK) (hr : Room n (A.deeper (envOfC "_law_mixed" (defScope s__law_mixed) s.heap.objs.size fa cdv))) :
    SSs (dm K) (cxOf (CX P w) P w K mg base ["number", "k", "step"] "_law_mixed" (defScope s__law_mixed) fa cdv A outer s H E) (callF T n) (fun cls d _ H => E cls d H) (baseM [false, false] [0, 0]) [] 0 (posT [false, false] 0) ([0, 0] ++ List.replicate 1 0) [0, 0, 0] c__law_mixed (defBody s__law_mixed) := by
  have tk : Takes (cxOf (CX P w) P w K mg base ["number", "k", "step"] "_law_mixed" (defScope s__law_mixed) fa cdv A outer s H E) (fun cls d _ H => E cls d H) := takes_of rfl rfl rfl rfl
  have po : PassesOwn (model P w) (A.deeper (envOfC "_law_mixed" (defScope s__law_mixed) s.heap.objs.size fa cdv)) (envOfC "_law_mixed" (defScope s__law_mixed) s.heap.objs.size fa cdv) (cxOf (CX P w) P w K mg base ["number", "k", "step"] "_law_mixed" (defScope s__law_mixed) fa cdv A outer s H E).xe := passes_of (X := cxOf (CX P w) P w K mg base ["number", "k", "step"] "_law_mixed" (defScope s__law_mixed) fa cdv A outer s H E) rfl
  exact (ss_cons (ms1 := [0, 0, 0]) (ss_set (i := 2) (n := 0) sc__law_mixed.nd ⟨rfl, (Or.inl rfl), Or.inl rfl⟩ (ltb rfl) (nmem rfl) rfl (SE.own0 (SE.give (s_bin rfl (op := .mod) rfl (SE.give (s_bin rfl (op := .add) rfl (SE.give (s_bin rfl (op := .add) rfl (SE.give (s_bin rfl (op := .mul) rfl (s_var (i := 0) rfl (Or.inl rfl) rfl rfl rfl) s_int rfl rfl)) (SE.give (s_bin rfl (op := .mul) rfl (s_var (i := 1) rfl (Or.inl rfl) rfl rfl rfl) s_int rfl rfl)) rfl rfl)) s_int rfl rfl)) s_int rfl rfl))) rfl) (ss_cons (ss_ret rfl (SE.own0 (SE.give (s_bin rfl (op := .mod) rfl (SE.give (s_bin rfl (op := .add) rfl (SE.give (s_bin rfl (op := .mul) rfl (s_var (i := 2) rfl (Or.inl rfl) rfl rfl rfl) (SE.give (s_bin rfl (op := .add) rfl (SE.give (s_bin rfl (op := .fdiv) rfl (s_var (i := 2) rfl (Or.inl rfl) rfl rfl rfl) s_int rfl rfl)) s_int rfl rfl)) rfl rfl)) (s_var (i := 1) rfl (Or.inl rfl) rfl rfl rfl) rfl rfl)) s_int rfl rfl))) rfl) ss_nil))
theorem sc__law_numbers : FnScope ["script", "numbers", "cell", "rest", "k"] ["script"] (defScope s__law_numbers) := ⟨rfl, rfl, rfl, by decide +kernel, rfl, by decide +kernel, by decide +kernel⟩
theorem b__law_numbers (g : Gs K w mg) {n : Nat} (ok : AllOk P w K mg base (dm K) T sigs n) (fa : Addr) (cdv : Value) (A : Around) (outer : List PySem.Env) (s : Shared) (H : Hp) (E : XK) (hr : Room n (A.deeper (envOfC "_law_numbers" (defScope s__law_numbers) s.heap.objs.size fa cdv))) :
    SSs (dm K) (cxOf (CX P w) P w K mg base ["script", "numbers", "cell", "rest", "k"] "_law_numbers" (defScope s__law_numbers) fa cdv A outer s H E) (callF T n) (fun cls d _ H => E cls d H) (baseM [false] [0]) [] 0 (posT [false] 0) ([0] ++ List.replicate 4 0) [0, 0, 0, 0, 0] c__law_numbers (defBody s__law_numbers) := by
  have tk : Takes (cxOf (CX P w) P w K mg base ["script", "numbers", "cell", "rest", "k"] "_law_numbers" (defScope s__law_numbers) fa cdv A outer s H E) (fun cls d _ H => E cls d H) := takes_of rfl rfl rfl rfl
  have po : PassesOwn (model P w) (A.deeper (envOfC "_law_numbers" (defScope s__law_numbers) s.heap.objs.size fa cdv)) (envOfC "_law_numbers" (defScope s__law_numbers) s.heap.objs.size fa cdv) (cxOf (CX P w) P w K mg base ["script", "numbers", "cell", "rest", "k"] "_law_numbers" (defScope s__law_numbers) fa cdv A outer s H E).xe := passes_of (X := cxOf (CX P w) P w K mg base ["script", "numbers", "cell", "rest", "k"] "_law_numbers" (defScope s__law_numbers) fa cdv A outer s H E) rfl
  exact (ss_cons (ms1 := [0, 1, 0, 0, 0]) (ss_set (i := 1) (n := 1) sc__law_numbers.nd ⟨rfl, (Or.inl rfl), Or.inl rfl⟩ (ltb rfl) (nmem rfl) rfl (s_lst sa_nil rfl) rfl) (ss_cons (ms1 := [0, 1, 0, 0, 0]) (ss_fr po rfl (si_o rfl (s_var (i := 0) rfl (Or.inl rfl) rfl rfl rfl)) (sg_nm (i := 2) sc__law_numbers.nd rfl (Or.inl rfl) (Or.inl rfl) rfl) (ss_cons (ms1 := [0, 1, 0, 0, 0]) (ss_ite (st_cmp rfl (hu65 hr) (op := .ge) rfl (s_var (i := 2) rfl (Or.inl rfl) rfl rfl rfl) (SE.give (s_bin rfl (op := .pow) rfl s_int s_int rfl rfl)) rfl rfl rfl) (ss_cons (ms1 := [0, 1, 0, 0, 0]) (ss_set (i := 3) (n := 0) sc__law_numbers.nd ⟨rfl, (Or.inl rfl), Or.inl rfl⟩ (ltb rfl) (nmem rfl) rfl (SE.own0 (s_var (i := 2) rfl (Or.inl rfl) rfl rfl rfl)) rfl) (ss_cons (ms1 := [0, 1, 0, 0, 0]) (ss_fr po rfl (si_r1 rfl rfl g.m_range s_int rfl rfl) (sg_nm (i := 4) sc__law_numbers.nd rfl (Or.inl rfl) (Or.inl rfl) rfl) (ss_cons (ms1 := [0, 1, 0, 0, 0]) (ss_ite (st_cmp rfl (hu65 hr) (op := .gt) rfl (s_var (i := 3) rfl (Or.inl rfl) rfl rfl rfl) s_int rfl rfl rfl) (ss_cons (ms1 := [0, 1, 0, 0, 0]) (ss_app (i := 1) rfl rfl (Or.inl rfl) rfl rfl rfl (SE.give (s_bin rfl (op := .mod) rfl (s_var (i := 3) rfl (Or.inl rfl) rfl rfl rfl) s_int rfl rfl)) (nmem rfl) rfl rfl rfl rfl rfl rfl) (ss_cons (ms1 := [0, 1, 0, 0, 0]) (ss_set (i := 3) (n := 0) sc__law_numbers.nd ⟨rfl, (Or.inl rfl), Or.inl rfl⟩ (ltb rfl) (nmem rfl) rfl (SE.own0 (SE.give (s_bin rfl (op := .fdiv) rfl (s_var (i := 3) rfl (Or.inl rfl) rfl rfl rfl) s_int rfl rfl))) rfl) ss_nil)) ss_nil rfl) ss_nil) rfl (nmemA rfl) (fun _ => rfl)) ss_nil)) (ss_cons (ms1 := [0, 1, 0, 0, 0]) (ss_app (i := 1) rfl rfl (Or.inl rfl) rfl rfl rfl (SE.give (s_bin rfl (op := .mod) rfl (s_var (i := 2) rfl (Or.inl rfl) rfl rfl rfl) s_int rfl rfl)) (nmem rfl) rfl rfl rfl rfl rfl rfl) (ss_cons (ms1 := [0, 1, 0, 0, 0]) (ss_fr po rfl (si_r1 rfl rfl g.m_range s_int rfl rfl) (sg_nm (i := 4) sc__law_numbers.nd rfl (Or.inl rfl) (Or.inl rfl) rfl) (ss_cons (ms1 := [0, 1, 0, 0, 0]) (ss_app (i := 1) rfl rfl (Or.inl rfl) rfl rfl rfl (SE.give (s_bin rfl (op := .mod) rfl (SE.give (s_callA (f := 14) (ks := [none, none]) ok rfl hr rfl g.m__law_mixed tk (av_v rfl (SE.give (s_callA (f := 14) (ks := [none, none]) ok rfl hr rfl g.m__law_mixed tk (av_v rfl (SE.give (s_bin rfl (op := .mod) rfl (s_var (i := 2) rfl (Or.inl rfl) rfl rfl rfl) s_int rfl rfl)) (av_v rfl (s_var (i := 4) rfl (Or.inl rfl) rfl rfl rfl) av_nil rfl) rfl) rfl rfl rfl rfl rfl rfl)) (av_v rfl (SE.give (s_bin rfl (op := .add) rfl (s_var (i := 4) rfl (Or.inl rfl) rfl rfl rfl) s_int rfl rfl)) av_nil rfl) rfl) rfl rfl rfl rfl rfl rfl)) s_int rfl rfl)) (nmem rfl) rfl rfl rfl rfl rfl rfl) ss_nil) rfl (nmemA rfl) (fun _ => rfl)) ss_nil)) rfl) ss_nil) rfl (nmemA rfl) (fun _ => rfl)) (ss_cons (SS.pre (ms1 := [0, 0, 0, 0, 0]) (ss_ret rfl (SE.own0 (s_var (i := 1) rfl (Or.inl rfl) rfl rfl rfl)) rfl) rfl) ss_nil)))
theorem sc__law_draw : FnScope ["draws", "many", "at", "first"] ["draws", "many"] (defScope s__law_draw) := ⟨rfl, rfl, rfl, by decide +kernel, rfl, by decide +kernel, by decide +kernel⟩
theorem b__law_draw (g : Gs K w mg) {n : Nat} (ok : AllOk P w K mg base (dm K) T sigs n) (fa : Addr) (cdv : Value) (A : Around) (outer : List PySem.Env) (s : Shared) (H : Hp) (E : XK) (hr : Room n (A.deeper (envOfC "_law_draw" (defScope s__law_draw) s.heap.objs.size fa cdv))) :
    SSs (dm K) (cxOf (CX P w) P w K mg base ["draws", "many", "at", "first"] "_law_draw" (defScope s__law_draw) fa cdv A outer s H E) (callF T n) (fun cls d _ H => E cls d H) (baseM [true, false] [1, 0]) [] 0 (posT [true, false] 0) ([1, 0] ++ List.replicate 2 0) [1, 0, 0, 0] c__law_draw (defBody s__law_draw) := by
  have tk : Takes (cxOf (CX P w) P w K mg base ["draws", "many", "at", "first"] "_law_draw" (defScope s__law_draw) fa cdv A outer s H E) (fun cls d _ H => E cls d H) := takes_of rfl rfl rfl rfl
  have po : PassesOwn (model P w) (A.deeper (envOfC "_law_draw" (defScope s__law_draw) s.heap.objs.size fa cdv)) (envOfC "_law_draw" (defScope s__law_draw) s.heap.objs.size fa cdv) (cxOf (CX P w) P w K mg base ["draws", "many", "at", "first"] "_law_draw" (defScope s__law_draw) fa cdv A outer s H E).xe := passes_of (X := cxOf (CX P w) P w K mg base ["draws", "many", "at", "first"] "_law_draw" (defScope s__law_draw) fa cdv A outer s H E) rfl
  exact (ss_cons (ms1 := [1, 0, 0, 0]) (ss_set (i := 2) (n := 0) sc__law_draw.nd ⟨rfl, (Or.inl rfl), Or.inl rfl⟩ (ltb rfl) (nmem rfl) rfl (SE.own0 (s_idx rfl (hu65 hr) (s_bv (i := 0) rfl (Or.inl rfl) rfl rfl rfl) s_int rfl rfl (fun _ _ => rfl))) rfl) (ss_cons (ms1 := [1, 0, 0, 0]) (ss_sto (i := 0) rfl (Or.inl rfl) rfl rfl rfl (SE.give (s_bin rfl (op := .add) rfl (s_var (i := 2) rfl (Or.inl rfl) rfl rfl rfl) s_int rfl rfl)) s_int rfl rfl (fun _ => rfl) rfl rfl rfl) (ss_cons (ms1 := [1, 0, 0, 0]) (ss_ite (st_cmp rfl (hu65 hr) (op := .lt) rfl (s_var (i := 2) rfl (Or.inl rfl) rfl rfl rfl) (SE.give (s_b1 rfl rfl (q := .len) rfl rfl g.m_len (s_idx rfl (hu65 hr) (s_bv (i := 0) rfl (Or.inl rfl) rfl rfl rfl) s_int rfl rfl (fun _ _ => rfl)) rfl rfl)) rfl rfl rfl) (ss_cons (ss_ret rfl (SE.own0 (SE.give (s_bin rfl (op := .mod) rfl (s_idx rfl (hu65 hr) (s_idx rfl (hu65 hr) (s_bv (i := 0) rfl (Or.inl rfl) rfl rfl rfl) s_int rfl rfl (fun _ _ => rfl)) (s_var (i := 2) rfl (Or.inl rfl) rfl rfl rfl) rfl rfl (fun _ _ => rfl)) (s_var (i := 1) rfl (Or.inl rfl) rfl rfl rfl) rfl rfl))) rfl) ss_nil) ss_nil rfl) (ss_cons (ms1 := [1, 0, 0, 0]) (ss_set (i := 3) (n := 0) sc__law_draw.nd ⟨rfl, (Or.inl rfl), Or.inl rfl⟩ (ltb rfl) (nmem rfl) rfl (SE.own0 (SE.give (s_bin rfl (op := .add) rfl s_int (s_var (i := 2) rfl (Or.inl rfl) rfl rfl rfl) rfl rfl))) rfl) (ss_cons (ms1 := [1, 0, 0, 0]) (ss_ite (st_cmp rfl (hu65 hr) (op := .gt) rfl (SE.give (s_b1 rfl rfl (q := .len) rfl rfl g.m_len (s_idx rfl (hu65 hr) (s_bv (i := 0) rfl (Or.inl rfl) rfl rfl rfl) s_int rfl rfl (fun _ _ => rfl)) rfl rfl)) s_int rfl rfl rfl) (ss_cons (ms1 := [1, 0, 0, 0]) (ss_set (i := 3) (n := 0) sc__law_draw.nd ⟨rfl, (Or.inl rfl), Or.inl rfl⟩ (ltb rfl) (nmem rfl) rfl (SE.own0 (SE.give (s_bin rfl (op := .add) rfl (s_var (i := 3) rfl (Or.inl rfl) rfl rfl rfl) (SE.give (s_bin rfl (op := .mul) rfl s_int (s_idx rfl (hu65 hr) (s_idx rfl (hu65 hr) (s_bv (i := 0) rfl (Or.inl rfl) rfl rfl rfl) s_int rfl rfl (fun _ _ => rfl)) s_int rfl rfl (fun _ _ => rfl)) rfl rfl)) rfl rfl))) rfl) ss_nil) ss_nil rfl) (ss_cons (ss_ret rfl (SE.own0 (SE.give (s_bin rfl (op := .mod) rfl (SE.give (s_bin rfl (op := .fdiv) rfl (SE.give (s_callA (f := 14) (ks := [none, none]) ok rfl hr rfl g.m__law_mixed tk (av_v rfl (SE.give (s_callA (f := 14) (ks := [none, none]) ok rfl hr rfl g.m__law_mixed tk (av_v rfl (s_var (i := 3) rfl (Or.inl rfl) rfl rfl rfl) (av_v rfl (s_var (i := 2) rfl (Or.inl rfl) rfl rfl rfl) av_nil rfl) rfl) rfl rfl rfl rfl rfl rfl)) (av_v rfl s_int av_nil rfl) rfl) rfl rfl rfl rfl rfl rfl)) s_int rfl rfl)) (s_var (i := 1) rfl (Or.inl rfl) rfl rfl rfl) rfl rfl))) rfl) ss_nil))))))
theorem sc__law_equal : FnScope ["actual", "due"] ["actual", "due"] (defScope s__law_equal) := ⟨rfl, rfl, rfl, by decide +kernel, rfl, by decide +kernel, by decide +kernel⟩
theorem b__law_equal (g : Gs K w mg) {n : Nat} (ok : AllOk P w K mg base (dm K) T sigs n) (fa : Addr) (cdv : Value) (A : Around) (outer : List PySem.Env) (s : Shared) (H : Hp) (E : XK) (hr : Room n (A.deeper (envOfC "_law_equal" (defScope s__law_equal) s.heap.objs.size fa cdv))) :
    SSs (dm K) (cxOf (CX P w) P w K mg base ["actual", "due"] "_law_equal" (defScope s__law_equal) fa cdv A outer s H E) (callF T n) (fun cls d _ H => E cls d H) (baseM [false, false] [0, 0]) [] 0 (posT [false, false] 0) ([0, 0] ++ List.replicate 0 0) [0, 0] c__law_equal (defBody s__law_equal) := by
  have tk : Takes (cxOf (CX P w) P w K mg base ["actual", "due"] "_law_equal" (defScope s__law_equal) fa cdv A outer s H E) (fun cls d _ H => E cls d H) := takes_of rfl rfl rfl rfl
  have po : PassesOwn (model P w) (A.deeper (envOfC "_law_equal" (defScope s__law_equal) s.heap.objs.size fa cdv)) (envOfC "_law_equal" (defScope s__law_equal) s.heap.objs.size fa cdv) (cxOf (CX P w) P w K mg base ["actual", "due"] "_law_equal" (defScope s__law_equal) fa cdv A outer s H E).xe := passes_of (X := cxOf (CX P w) P w K mg base ["actual", "due"] "_law_equal" (defScope s__law_equal) fa cdv A outer s H E) rfl
  exact (ss_cons (ms1 := [0, 0]) (ss_ite (st_tr rfl (s_isi rfl (t := .list) rfl rfl g.m_isinstance rfl g.m_list (s_var (i := 1) rfl (Or.inl rfl) rfl rfl rfl) rfl rfl) rfl (fun _ => rfl)) (ss_cons (ss_ret rfl (SE.own0 (s_an rfl (s_isi rfl (t := .list) rfl rfl g.m_isinstance rfl g.m_list (s_var (i := 0) rfl (Or.inl rfl) rfl rfl rfl) rfl rfl) (s_an rfl (s_cmp rfl (hu65 hr) (op := .eq) rfl (SE.give (s_b1 rfl rfl (q := .len) rfl rfl g.m_len (s_var (i := 0) rfl (Or.inl rfl) rfl rfl rfl) rfl rfl)) (SE.give (s_b1 rfl rfl (q := .len) rfl rfl g.m_len (s_var (i := 1) rfl (Or.inl rfl) rfl rfl rfl) rfl rfl)) rfl rfl rfl) (s_one (SE.give (s_callA (f := 18) (ks := [none, none]) ok rfl hr rfl g.m__law_all_equal tk (av_v rfl (s_var (i := 0) rfl (Or.inl rfl) rfl rfl rfl) (av_v rfl (s_var (i := 1) rfl (Or.inl rfl) rfl rfl rfl) av_nil rfl) rfl) rfl rfl rfl rfl rfl rfl)))))) rfl) ss_nil) ss_nil rfl) (ss_cons (ms1 := [0, 0]) (ss_ite (st_tr rfl (s_isi rfl (t := .tuple) rfl rfl g.m_isinstance rfl g.m_tuple (s_var (i := 1) rfl (Or.inl rfl) rfl rfl rfl) rfl rfl) rfl (fun _ => rfl)) (ss_cons (ss_ret rfl (SE.own0 (s_an rfl (s_isi rfl (t := .tuple) rfl rfl g.m_isinstance rfl g.m_tuple (s_var (i := 0) rfl (Or.inl rfl) rfl rfl rfl) rfl rfl) (s_an rfl (s_cmp rfl (hu65 hr) (op := .eq) rfl (SE.give (s_b1 rfl rfl (q := .len) rfl rfl g.m_len (s_var (i := 0) rfl (Or.inl rfl) rfl rfl rfl) rfl rfl)) (SE.give (s_b1 rfl rfl (q := .len) rfl rfl g.m_len (s_var (i := 1) rfl (Or.inl rfl) rfl rfl rfl) rfl rfl)) rfl rfl rfl) (s_one (SE.give (s_callA (f := 18) (ks := [none, none]) ok rfl hr rfl g.m__law_all_equal tk (av_v rfl (s_var (i := 0) rfl (Or.inl rfl) rfl rfl rfl) (av_v rfl (s_var (i := 1) rfl (Or.inl rfl) rfl rfl rfl) av_nil rfl) rfl) rfl rfl rfl rfl rfl rfl)))))) rfl) ss_nil) ss_nil rfl) (ss_cons (ms1 := [0, 0]) (ss_ite (st_tr rfl (s_isi rfl (t := .bool) rfl rfl g.m_isinstance rfl g.m_bool (s_var (i := 1) rfl (Or.inl rfl) rfl rfl rfl) rfl rfl) rfl (fun _ => rfl)) (ss_cons (ss_ret rfl (SE.own0 (s_an rfl (s_isi rfl (t := .bool) rfl rfl g.m_isinstance rfl g.m_bool (s_var (i := 0) rfl (Or.inl rfl) rfl rfl rfl) rfl rfl) (s_one (s_cmp rfl (hu65 hr) (op := .eq) rfl (s_var (i := 0) rfl (Or.inl rfl) rfl rfl rfl) (s_var (i := 1) rfl (Or.inl rfl) rfl rfl rfl) rfl rfl rfl)))) rfl) ss_nil) ss_nil rfl) (ss_cons (ms1 := [0, 0]) (ss_ite (st_tr rfl (s_isi rfl (t := .int) rfl rfl g.m_isinstance rfl g.m_int (s_var (i := 1) rfl (Or.inl rfl) rfl rfl rfl) rfl rfl) rfl (fun _ => rfl)) (ss_cons (ss_ret rfl (SE.own0 (s_an rfl (s_isi rfl (t := .int) rfl rfl g.m_isinstance rfl g.m_int (s_var (i := 0) rfl (Or.inl rfl) rfl rfl rfl) rfl rfl) (s_an rfl (s_nt rfl (s_isi rfl (t := .bool) rfl rfl g.m_isinstance rfl g.m_bool (s_var (i := 0) rfl (Or.inl rfl) rfl rfl rfl) rfl rfl) rfl) (s_one (s_cmp rfl (hu65 hr) (op := .eq) rfl (s_var (i := 0) rfl (Or.inl rfl) rfl rfl rfl) (s_var (i := 1) rfl (Or.inl rfl) rfl rfl rfl) rfl rfl rfl))))) rfl) ss_nil) ss_nil rfl) (ss_cons (ms1 := [0, 0]) (ss_ite (st_tr rfl (s_isi rfl (t := .str) rfl rfl g.m_isinstance rfl g.m_str (s_var (i := 1) rfl (Or.inl rfl) rfl rfl rfl) rfl rfl) rfl (fun _ => rfl)) (ss_cons (ss_ret rfl (SE.own0 (s_an rfl (s_isi rfl (t := .str) rfl rfl g.m_isinstance rfl g.m_str (s_var (i := 0) rfl (Or.inl rfl) rfl rfl rfl) rfl rfl) (s_one (s_cmp rfl (hu65 hr) (op := .eq) rfl (s_var (i := 0) rfl (Or.inl rfl) rfl rfl rfl) (s_var (i := 1) rfl (Or.inl rfl) rfl rfl rfl) rfl rfl rfl)))) rfl) ss_nil) ss_nil rfl) (ss_cons (ss_ret rfl (SE.own0 (s_cmp rfl (hu65 hr) (op := .is) rfl (s_var (i := 0) rfl (Or.inl rfl) rfl rfl rfl) s_non rfl rfl rfl)) rfl) ss_nil))))))
theorem sc__law_all_equal : FnScope ["actual", "due", "k"] ["actual", "due"] (defScope s__law_all_equal) := ⟨rfl, rfl, rfl, by decide +kernel, rfl, by decide +kernel, by decide +kernel⟩
theorem b__law_all_equal (g : Gs K w mg) {n : Nat} (ok : AllOk P w K mg base (dm K) T sigs n) (fa : Addr) (cdv : Value) (A : Around) (outer : List PySem.Env) (s : Shared) (H : Hp) (E : XK) (hr : Room n (A.deeper (envOfC "_law_all_equal" (defScope s__law_all_equal) s.heap.objs.size fa cdv))) :
    SSs (dm K) (cxOf (CX P w) P w K mg base ["actual", "due", "k"] "_law_all_equal" (defScope s__law_all_equal) fa cdv A outer s H E) (callF T n) (fun cls d _ H => E cls d H) (baseM [false, false] [0, 0]) [] 0 (posT [false, false] 0) ([0, 0] ++ List.replicate 1 0) [0, 0, 0] c__law_all_equal (defBody s__law_all_equal) := by
  have tk : Takes (cxOf (CX P w) P w K mg base ["actual", "due", "k"] "_law_all_equal" (defScope s__law_all_equal) fa cdv A outer s H E) (fun cls d _ H => E cls d H) := takes_of rfl rfl rfl rfl
  have po : PassesOwn (model P w) (A.deeper (envOfC "_law_all_equal" (defScope s__law_all_equal) s.heap.objs.size fa cdv)) (envOfC "_law_all_equal" (defScope s__law_all_equal) s.heap.objs.size fa cdv) (cxOf (CX P w) P w K mg base ["actual", "due", "k"] "_law_all_equal" (defScope s__law_all_equal) fa cdv A outer s H E).xe := passes_of (X := cxOf (CX P w) P w K mg base ["actual", "due", "k"] "_law_all_equal" (defScope s__law_all_equal) fa cdv A outer s H E) rfl
  exact (ss_cons (ms1 := [0, 0, 0]) (ss_fr po rfl (si_r1 rfl rfl g.m_range (SE.give (s_b1 rfl rfl (q := .len) rfl rfl g.m_len (s_var (i := 1) rfl (Or.inl rfl) rfl rfl rfl) rfl rfl)) rfl rfl) (sg_nm (i := 2) sc__law_all_equal.nd rfl (Or.inl rfl) (Or.inl rfl) rfl) (ss_cons (ms1 := [0, 0, 0]) (ss_ite (st_nt (st_tr rfl (SE.give (s_callA (f := 17) (ks := [none, none]) ok rfl hr rfl g.m__law_equal tk (av_v rfl (s_idx rfl (hu65 hr) (s_var (i := 0) rfl (Or.inl rfl) rfl rfl rfl) (s_var (i := 2) rfl (Or.inl rfl) rfl rfl rfl) rfl rfl (fun _ _ => rfl)) (av_v rfl (s_idx rfl (hu65 hr) (s_var (i := 1) rfl (Or.inl rfl) rfl rfl rfl) (s_var (i := 2) rfl (Or.inl rfl) rfl rfl rfl) rfl rfl (fun _ _ => rfl)) av_nil rfl) rfl) rfl rfl rfl rfl rfl rfl)) rfl (fun _ => rfl))) (ss_cons (ss_ret rfl (SE.own0 s_bl) rfl) ss_nil) ss_nil rfl) ss_nil) rfl (nmemA rfl) (fun _ => rfl)) (ss_cons (ss_ret rfl (SE.own0 s_bl) rfl) ss_nil))
theorem sc__law_words : FnScope [] [] (defScope s__law_words) := ⟨rfl, rfl, rfl, by decide +kernel, rfl, by decide +kernel, by decide +kernel⟩
theorem b__law_words (g : Gs K w mg) {n : Nat} (ok : AllOk P w K mg base (dm K) T sigs n) (fa : Addr) (cdv : Value) (A : Around) (outer : List PySem.Env) (s : Shared) (H : Hp) (E : XK) (hr : Room n (A.deeper (envOfC "_law_words" (defScope s__law_words) s.heap.objs.size fa cdv))) :
    SSs (dm K) (cxOf (CX P w) P w K mg base [] "_law_words" (defScope s__law_words) fa cdv A outer s H E) (callF T n) (fun cls d _ H => E cls d H) (baseM [] []) [] 0 (posT [] 0) ([] ++ List.replicate 0 0) [] c__law_words (defBody s__law_words) := by
  have tk : Takes (cxOf (CX P w) P w K mg base [] "_law_words" (defScope s__law_words) fa cdv A outer s H E) (fun cls d _ H => E cls d H) := takes_of rfl rfl rfl rfl
  have po : PassesOwn (model P w) (A.deeper (envOfC "_law_words" (defScope s__law_words) s.heap.objs.size fa cdv)) (envOfC "_law_words" (defScope s__law_words) s.heap.objs.size fa cdv) (cxOf (CX P w) P w K mg base [] "_law_words" (defScope s__law_words) fa cdv A outer s H E).xe := passes_of (X := cxOf (CX P w) P w K mg base [] "_law_words" (defScope s__law_words) fa cdv A outer s H E) rfl
  exact (ss_cons (ss_ret rfl (SE.own0 (s_ddis (kvs := [([76], [49, 49, 49, 48, 49, 49, 49, 49, 49, 48, 48, 48, 49, 48, 48, 32, 49, 49, 49, 48, 48, 49, 48, 49, 49, 49, 49, 48, 48, 49, 49, 32, 49, 49, 49, 49, 49, 48, 49, 49, 48, 49, 48, 49, 48, 49, 48, 32, 49, 49, 49, 49, 48, 48, 48, 49, 48, 48, 49, 49, 49, 48, 49, 32, 49, 49, 48, 48, 49, 49, 48, 48, 48, 49, 48, 49, 49, 49, 49, 32, 49, 49, 48, 48, 48, 49, 49, 48, 48, 48, 49, 49, 48, 48, 48, 32, 49, 49, 48, 49, 49, 48, 48, 48, 49, 48, 48, 48, 48, 48, 49, 32, 49, 49, 48, 49, 48, 48, 49, 48, 49, 49, 49, 48, 49, 49, 48]), ([77], [49, 48, 49, 48, 49, 48, 48, 48, 48, 48, 49, 48, 48, 49, 48, 32, 49, 48, 49, 48, 48, 48, 49, 48, 48, 49, 48, 48, 49, 48, 49, 32, 49, 48, 49, 49, 49, 49, 48, 48, 49, 49, 49, 49, 49, 48, 48, 32, 49, 48, 49, 49, 48, 49, 49, 48, 49, 48, 48, 49, 48, 49, 49, 32, 49, 48, 48, 48, 49, 48, 49, 49, 49, 49, 49, 49, 48, 48, 49, 32, 49, 48, 48, 48, 48, 48, 48, 49, 49, 48, 48, 49, 49, 49, 48, 32, 49, 48, 48, 49, 49, 49, 49, 49, 48, 48, 49, 48, 49, 49, 49, 32, 49, 48, 48, 49, 48, 49, 48, 49, 48, 49, 48, 48, 48, 48, 48]), ([81], [48, 49, 49, 48, 49, 48, 49, 48, 49, 48, 49, 49, 49, 49, 49, 32, 48, 49, 49, 48, 48, 48, 48, 48, 49, 49, 48, 49, 48, 48, 48, 32, 48, 49, 49, 49, 49, 49, 49, 48, 48, 49, 49, 48, 48, 48, 49, 32, 48, 49, 49, 49, 48, 49, 48, 48, 48, 48, 48, 48, 49, 49, 48, 32, 48, 49, 48, 48, 49, 48, 48, 49, 48, 49, 49, 48, 49, 48, 48, 32, 48, 49, 48, 48, 48, 48, 49, 49, 48, 48, 48, 48, 48, 49, 49, 32, 48, 49, 48, 49, 49, 49, 48, 49, 49, 48, 49, 49, 48, 49, 48, 32, 48, 49, 48, 49, 48, 49, 49, 49, 49, 49, 48, 49, 49, 48, 49]), ([72], [48, 48, 49, 48, 49, 49, 48, 49, 48, 48, 48, 49, 48, 48, 49, 32, 48, 48, 49, 48, 48, 49, 49, 49, 48, 49, 49, 49, 49, 49, 48, 32, 48, 48, 49, 49, 49, 48, 48, 49, 49, 49, 48, 48, 49, 49, 49, 32, 48, 48, 49, 49, 48, 48, 49, 49, 49, 48, 49, 48, 48, 48, 48, 32, 48, 48, 48, 48, 49, 49, 49, 48, 49, 49, 48, 48, 48, 49, 48, 32, 48, 48, 48, 48, 48, 49, 48, 48, 49, 48, 49, 48, 49, 48, 49, 32, 48, 48, 48, 49, 49, 48, 49, 48, 48, 48, 48, 49, 49, 48, 48, 32, 48, 48, 48, 49, 48, 48, 48, 48, 48, 49, 49, 49, 48, 49, 49])]) (pps_cons pe_str pe_str (pps_cons pe_str pe_str (pps_cons pe_str pe_str (pps_cons pe_str pe_str pps_nil)))) rfl rfl (by simp) (by decide) (by decide) (by decide +kernel) (by kernel_rfl))) rfl) ss_nil)
theorem sc__law_apart : FnScope ["one", "other", "k"] ["one", "other"] (defScope s__law_apart) := ⟨rfl, rfl, rfl, by decide +kernel, rfl, by decide +kernel, by decide +kernel⟩
theorem b__law_apart (g : Gs K w mg) {n : Nat} (ok : AllOk P w K mg base (dm K) T sigs n) (fa : Addr) (cdv : Value) (A : Around) (outer : List PySem.Env) (s : Shared) (H : Hp) (E : XK) (hr : Room n (A.deeper (envOfC "_law_apart" (defScope s__law_apart) s.heap.objs.size fa cdv))) :
    SSs (dm K) (cxOf (CX P w) P w K mg base ["one", "other", "k"] "_law_apart" (defScope s__law_apart) fa cdv A outer s H E) (callF T n) (fun cls d _ H => E cls d H) (baseM [false, false] [0, 0]) [] 0 (posT [false, false] 0) ([0, 0] ++ List.replicate 1 0) [0, 0, 0] c__law_apart (defBody s__law_apart) := by
  have tk : Takes (cxOf (CX P w) P w K mg base ["one", "other", "k"] "_law_apart" (defScope s__law_apart) fa cdv A outer s H E) (fun cls d _ H => E cls d H) := takes_of rfl rfl rfl rfl
  have po : PassesOwn (model P w) (A.deeper (envOfC "_law_apart" (defScope s__law_apart) s.heap.objs.size fa cdv)) (envOfC "_law_apart" (defScope s__law_apart) s.heap.objs.size fa cdv) (cxOf (CX P w) P w K mg base ["one", "other", "k"] "_law_apart" (defScope s__law_apart) fa cdv A outer s H E).xe := passes_of (X := cxOf (CX P w) P w K mg base ["one", "other", "k"] "_law_apart" (defScope s__law_apart) fa cdv A outer s H E) rfl
  exact (ss_cons (ss_ret rfl (SE.own0 (SE.give (s_b1 rfl rfl (q := .len) rfl rfl g.m_len (SE.give (s_cp rfl rfl sc__law_apart.nd (ow := [("k", 2)]) rfl (si_r1 rfl rfl g.m_range s_int rfl rfl) (blkOk_by rfl) (fun s H Ca cl fp => (sg_nm (i := 2) sc__law_apart.nd rfl (by first | exact Or.inl rfl | exact Or.inr rfl) (by first | exact Or.inr rfl | exact Or.inl rfl) rfl)) (fun s H Ca cl fp => (sc_one (st_cmp rfl (hu65 hr) (op := .ne) rfl (s_idx rfl (hu65 hr) (s_var (i := 0) rfl (by first | exact Or.inl rfl | exact Or.inr (Or.inl rfl) | exact Or.inr (Or.inr rfl)) rfl rfl rfl) (s_var (i := 2) rfl (by first | exact Or.inl rfl | exact Or.inr (Or.inl rfl) | exact Or.inr (Or.inr rfl)) rfl rfl rfl) rfl rfl (fun _ _ => rfl)) (s_idx rfl (hu65 hr) (s_var (i := 1) rfl (by first | exact Or.inl rfl | exact Or.inr (Or.inl rfl) | exact Or.inr (Or.inr rfl)) rfl rfl rfl) (s_var (i := 2) rfl (by first | exact Or.inl rfl | exact Or.inr (Or.inl rfl) | exact Or.inr (Or.inr rfl)) rfl rfl rfl) rfl rfl (fun _ _ => rfl)) rfl rfl rfl))) (fun s H Ca cl fp => (s_var (i := 2) rfl (by first | exact Or.inl rfl | exact Or.inr (Or.inl rfl) | exact Or.inr (Or.inr rfl)) rfl rfl rfl)) (zeroA rfl) (subA rfl) (fun _ => rfl))) rfl rfl))) rfl) ss_nil)
theorem sc__law_all : FnScope ["found", "level", "words", "mask"] [] (defScope s__law_all) := ⟨rfl, rfl, rfl, by decide +kernel, rfl, by decide +kernel, by decide +kernel⟩
theorem b__law_all (g : Gs K w mg) {n : Nat} (ok : AllOk P w K mg base (dm K) T sigs n) (fa : Addr) (cdv : Value) (A : Around) (outer : List PySem.Env) (s : Shared) (H : Hp) (E : XK) (hr : Room n (A.deeper (envOfC "_law_all" (defScope s__law_all) s.heap.objs.size fa cdv))) :
    SSs (dm K) (cxOf (CX P w) P w K mg base ["found", "level", "words", "mask"] "_law_all" (defScope s__law_all) fa cdv A outer s H E) (callF T n) (fun cls d _ H => E cls d H) (baseM [] []) [] 0 (posT [] 0) ([] ++ List.replicate 4 0) [0, 0, 0, 0] c__law_all (defBody s__law_all) := by
  have tk : Takes (cxOf (CX P w) P w K mg base ["found", "level", "words", "mask"] "_law_all" (defScope s__law_all) fa cdv A outer s H E) (fun cls d _ H => E cls d H) := takes_of rfl rfl rfl rfl
  have po : PassesOwn (model P w) (A.deeper (envOfC "_law_all" (defScope s__law_all) s.heap.objs.size fa cdv)) (envOfC "_law_all" (defScope s__law_all) s.heap.objs.size fa cdv) (cxOf (CX P w) P w K mg base ["found", "level", "words", "mask"] "_law_all" (defScope s__law_all) fa cdv A outer s H E).xe := passes_of (X := cxOf (CX P w) P w K mg base ["found", "level", "words", "mask"] "_law_all" (defScope s__law_all) fa cdv A outer s H E) rfl
  exact (ss_cons (ms1 := [0, 0, 0, 0]) (ss_set (i := 0) (n := 0) sc__law_all.nd ⟨rfl, (Or.inl rfl), Or.inl rfl⟩ (ltb rfl) (nmem rfl) rfl (SE.own0 (SE.give (s_lst sa_nil rfl))) rfl) (ss_cons (ms1 := [0, 0, 0, 0]) (ss_fr po rfl (si_l rfl (SE.give (s_lst (sa_cons (s_str (t := [76]) rfl rfl) (sa_cons (s_str (t := [77]) rfl rfl) (sa_cons (s_str (t := [81]) rfl rfl) (sa_cons (s_str (t := [72]) rfl rfl) sa_nil rfl) rfl) rfl) rfl) rfl))) (sg_nm (i := 1) sc__law_all.nd rfl (Or.inr rfl) (Or.inl rfl) rfl) (ss_cons (ms1 := [0, 0, 0, 0]) (ss_set (i := 2) (n := 0) sc__law_all.nd ⟨rfl, (Or.inr rfl), Or.inl rfl⟩ (ltb rfl) (nmem rfl) rfl (SE.own0 (SE.give (s_m1 rfl (hu65 hr) (m := .split) rfl (s_idx rfl (hu65 hr) (SE.give (s_call0A (f := 19) ok rfl hr rfl g.m__law_words rfl rfl rfl)) (s_var (i := 1) rfl (Or.inr (Or.inl rfl)) rfl rfl rfl) rfl rfl (fun _ _ => rfl)) (s_str (t := [32]) rfl rfl) rfl rfl rfl rfl rfl rfl))) rfl) (ss_cons (ms1 := [0, 0, 0, 0]) (ss_set (i := 0) (n := 0) sc__law_all.nd ⟨rfl, (Or.inl rfl), Or.inl rfl⟩ (ltb rfl) (nmem rfl) rfl (SE.own0 (SE.give (s_bin rfl (op := .add) rfl (s_var (i := 0) rfl (Or.inl rfl) rfl rfl rfl) (SE.give (s_cp rfl rfl sc__law_all.nd (ow := [("mask", 3)]) rfl (si_r1 rfl rfl g.m_range s_int rfl rfl) (blkOk_by rfl) (fun s H Ca cl fp => (sg_nm (i := 3) sc__law_all.nd rfl (by first | exact Or.inl rfl | exact Or.inr rfl) (by first | exact Or.inr rfl | exact Or.inl rfl) rfl)) (fun s H Ca cl fp => sc_nil) (fun s H Ca cl fp => (s_tup (sa_cons (s_idx rfl (hu65 hr) (s_var (i := 2) rfl (by first | exact Or.inl rfl | exact Or.inr (Or.inl rfl) | exact Or.inr (Or.inr rfl)) rfl rfl rfl) (s_var (i := 3) rfl (by first | exact Or.inl rfl | exact Or.inr (Or.inl rfl) | exact Or.inr (Or.inr rfl)) rfl rfl rfl) rfl rfl (fun _ _ => rfl)) (sa_cons (s_var (i := 1) rfl (by first | exact Or.inl rfl | exact Or.inr (Or.inl rfl) | exact Or.inr (Or.inr rfl)) rfl rfl rfl) (sa_cons (s_var (i := 3) rfl (by first | exact Or.inl rfl | exact Or.inr (Or.inl rfl) | exact Or.inr (Or.inr rfl)) rfl rfl rfl) sa_nil rfl) rfl) rfl) rfl)) (zeroA rfl) (subA rfl) (fun _ => rfl))) rfl rfl))) rfl) ss_nil)) rfl (nmemA rfl) (fun _ => rfl)) (ss_cons (ss_ret rfl (SE.own0 (s_var (i := 0) rfl (Or.inl rfl) rfl rfl rfl)) rfl) ss_nil)))
theorem sc__law_named : FnScope ["bits", "every", "word", "level", "mask"] ["bits"] (defScope s__law_named) := ⟨rfl, rfl, rfl, by decide +kernel, rfl, by decide +kernel, by decide +kernel⟩
theorem b__law_named (g : Gs K w mg) {n : Nat} (ok : AllOk P w K mg base (dm K) T sigs n) (fa : Addr) (cdv : Value) (A : Around) (outer : List PySem.Env) (s : Shared) (H : Hp) (E : XK) (hr : Room n (A.deeper (envOfC "_law_named" (defScope s__law_named) s.heap.objs.size fa cdv))) :
    SSs (dm K) (cxOf (CX P w) P w K mg base ["bits", "every", "word", "level", "mask"] "_law_named" (defScope s__law_named) fa cdv A outer s H E) (callF T n) (fun cls d _ H => E cls d H) (baseM [false] [0]) [] 0 (posT [false] 0) ([0] ++ List.replicate 4 0) [0, 0, 0, 0, 0] c__law_named (defBody s__law_named) := by
  have tk : Takes (cxOf (CX P w) P w K mg base ["bits", "every", "word", "level", "mask"] "_law_named" (defScope s__law_named) fa cdv A outer s H E) (fun cls d _ H => E cls d H) := takes_of rfl rfl rfl rfl
  have po : PassesOwn (model P w) (A.deeper (envOfC "_law_named" (defScope s__law_named) s.heap.objs.size fa cdv)) (envOfC "_law_named" (defScope s__law_named) s.heap.objs.size fa cdv) (cxOf (CX P w) P w K mg base ["bits", "every", "word", "level", "mask"] "_law_named" (defScope s__law_named) fa cdv A outer s H E).xe := passes_of (X := cxOf (CX P w) P w K mg base ["bits", "every", "word", "level", "mask"] "_law_named" (defScope s__law_named) fa cdv A outer s H E) rfl
  exact (ss_cons (ms1 := [0, 0, 0, 0, 0]) (ss_set (i := 1) (n := 0) sc__law_named.nd ⟨rfl, (Or.inl rfl), Or.inl rfl⟩ (ltb rfl) (nmem rfl) rfl (SE.own0 (SE.give (s_srt rfl (hu65 hr) rfl rfl g.m_sorted (SE.give (s_cp rfl rfl sc__law_named.nd (ow := [("word", 2), ("level", 3), ("mask", 4)]) rfl (si_l rfl (SE.give (s_call0A (f := 21) ok rfl hr rfl g.m__law_all rfl rfl rfl))) (blkOk_by rfl) (fun s H Ca cl fp => (sg_tp rfl rfl (sgs_cons (i := 2) sc__law_named.nd rfl (by first | exact Or.inl rfl | exact Or.inr rfl) (by first | exact Or.inr rfl | exact Or.inl rfl) rfl (sgs_cons (i := 3) sc__law_named.nd rfl (by first | exact Or.inl rfl | exact Or.inr rfl) (by first | exact Or.inr rfl | exact Or.inl rfl) rfl (sgs_cons (i := 4) sc__law_named.nd rfl (by first | exact Or.inl rfl | exact Or.inr rfl) (by first | exact Or.inr rfl | exact Or.inl rfl) rfl sgs_nil rfl) rfl) rfl) rfl rfl)) (fun s H Ca cl fp => sc_nil) (fun s H Ca cl fp => (s_tup (sa_cons (SE.give (s_callA (f := 20) (ks := [none, none]) ok rfl hr rfl g.m__law_apart takes0 (av_v rfl (s_var (i := 0) rfl (by first | exact Or.inl rfl | exact Or.inr (Or.inl rfl) | exact Or.inr (Or.inr rfl)) rfl rfl rfl) (av_v rfl (s_var (i := 2) rfl (by first | exact Or.inl rfl | exact Or.inr (Or.inl rfl) | exact Or.inr (Or.inr rfl)) rfl rfl rfl) av_nil rfl) rfl) rfl rfl rfl rfl rfl rfl)) (sa_cons (s_var (i := 3) rfl (by first | exact Or.inl rfl | exact Or.inr (Or.inl rfl) | exact Or.inr (Or.inr rfl)) rfl rfl rfl) (sa_cons (s_var (i := 4) rfl (by first | exact Or.inl rfl | exact Or.inr (Or.inl rfl) | exact Or.inr (Or.inr rfl)) rfl rfl rfl) sa_nil rfl) rfl) rfl) rfl)) (zeroA rfl) (subA rfl) (fun _ => rfl))) rfl rfl))) rfl) (ss_cons (ms1 := [0, 0, 0, 0, 0]) (ss_ite (st_w (sw_or (st_cmp rfl (hu65 hr) (op := .gt) rfl (s_idx rfl (hu65 hr) (s_idx rfl (hu65 hr) (s_var (i := 1) rfl (Or.inl rfl) rfl rfl rfl) s_int rfl rfl (fun _ _ => rfl)) s_int rfl rfl (fun _ _ => rfl)) s_int rfl rfl rfl) (sw_one (st_cmp rfl (hu65 hr) (op := .eq) rfl (s_idx rfl (hu65 hr) (s_idx rfl (hu65 hr) (s_var (i := 1) rfl (Or.inl rfl) rfl rfl rfl) s_int rfl rfl (fun _ _ => rfl)) s_int rfl rfl (fun _ _ => rfl)) (s_idx rfl (hu65 hr) (s_idx rfl (hu65 hr) (s_var (i := 1) rfl (Or.inl rfl) rfl rfl rfl) s_int rfl rfl (fun _ _ => rfl)) s_int rfl rfl (fun _ _ => rfl)) rfl rfl rfl)))) (ss_cons (ss_ret rfl (SE.own0 s_non) rfl) ss_nil) ss_nil rfl) (ss_cons (ss_ret rfl (SE.own0 (s_tup (sa_cons (s_str (t := [114, 101, 97, 100]) rfl rfl) (sa_cons (s_idx rfl (hu65 hr) (s_idx rfl (hu65 hr) (s_var (i := 1) rfl (Or.inl rfl) rfl rfl rfl) s_int rfl rfl (fun _ _ => rfl)) s_int rfl rfl (fun _ _ => rfl)) (sa_cons (s_idx rfl (hu65 hr) (s_idx rfl (hu65 hr) (s_var (i := 1) rfl (Or.inl rfl) rfl rfl rfl) s_int rfl rfl (fun _ _ => rfl)) s_int rfl rfl (fun _ _ => rfl)) (sa_cons (s_idx rfl (hu65 hr) (s_idx rfl (hu65 hr) (s_var (i := 1) rfl (Or.inl rfl) rfl rfl rfl) s_int rfl rfl (fun _ _ => rfl)) s_int rfl rfl (fun _ _ => rfl)) sa_nil rfl) rfl) rfl) rfl) rfl)) rfl) ss_nil)))
theorem sc_law : FnScope ["script", "draws", "word", "level", "mask", "many", "bits", "turn", "at", "k", "other", "bad"] ["script"] (defScope s_law) := ⟨rfl, rfl, rfl, by decide +kernel, rfl, by decide +kernel, by decide +kernel⟩
theorem b_law (g : Gs K w mg) {n : Nat} (ok : AllOk P w K mg base (dm K) T sigs n) (fa : Addr) (cdv : Value) (A : Around) (outer : List PySem.Env) (s : Shared) (H : Hp) (E : XK) (hr : Room n (A.deeper (envOfC "law" (defScope s_law) s.heap.objs.size fa cdv))) :
    SSs (dm K) (cxOf CX0 P w K mg base ["script", "draws", "word", "level", "mask", "many", "bits", "turn", "at", "k", "other", "bad"] "law" (defScope s_law) fa cdv A outer s H E) (callF T n) (fun _ _ _ _ => False) (baseM [false] [0]) [] 0 (posT [false] 0) ([0] ++ List.replicate 11 0) [0, 0, 0, 0, 0, 0, 0, 0, 0, 0, 0, 0] c_law (defBody s_law) := by
  have tk : Takes (cxOf CX0 P w K mg base ["script", "draws", "word", "level", "mask", "many", "bits", "turn", "at", "k", "other", "bad"] "law" (defScope s_law) fa cdv A outer s H E) (fun _ _ _ _ => False) := takes0
  have po : PassesOwn (model P w) (A.deeper (envOfC "law" (defScope s_law) s.heap.objs.size fa cdv)) (envOfC "law" (defScope s_law) s.heap.objs.size fa cdv) (cxOf CX0 P w K mg base ["script", "draws", "word", "level", "mask", "many", "bits", "turn", "at", "k", "other", "bad"] "law" (defScope s_law) fa cdv A outer s H E).xe := passes_of (X := cxOf CX0 P w K mg base ["script", "draws", "word", "level", "mask", "many", "bits", "turn", "at", "k", "other", "bad"] "law" (defScope s_law) fa cdv A outer s H E) rfl
  exact (ss_cons (ms1 := [0, 1, 0, 0, 0, 0, 0, 0, 0, 0, 0, 0]) (ss_set (i := 1) (n := 1) sc_law.nd ⟨rfl, (Or.inr rfl), Or.inl rfl⟩ (ltb rfl) (nmem rfl) rfl (s_lst (sa_cons (SE.give (s_callA (f := 15) (ks := [none]) ok rfl hr rfl g.m__law_numbers tk (av_v rfl (s_var (i := 0) rfl (Or.inl rfl) rfl rfl rfl) av_nil rfl) rfl rfl rfl rfl rfl rfl)) (sa_cons s_int sa_nil rfl) rfl) rfl) rfl) (ss_cons (ms1 := [0, 1, 0, 0, 0, 0, 0, 0, 0, 0, 0, 0]) (ss_fr po rfl (si_l rfl (SE.give (s_call0A (f := 21) ok rfl hr rfl g.m__law_all rfl rfl rfl))) (sg_tp rfl rfl (sgs_cons (i := 2) sc_law.nd rfl (Or.inr rfl) (Or.inl rfl) rfl (sgs_cons (i := 3) sc_law.nd rfl (Or.inl rfl) (Or.inl rfl) rfl (sgs_cons (i := 4) sc_law.nd rfl (Or.inl rfl) (Or.inl rfl) rfl sgs_nil rfl) rfl) rfl) rfl rfl) (ss_cons (ms1 := [0, 1, 0, 0, 0, 0, 0, 0, 0, 0, 0, 0]) (ss_ite (st_nt (st_tr rfl (SE.give (s_callA (f := 17) (ks := [none, none]) ok rfl hr rfl g.m__law_equal tk (av_v rfl (SE.give (s_callA (f := 10) (ks := [none, none]) ok rfl hr rfl g.m_format_bits tk (av_v rfl (s_var (i := 3) rfl (Or.inl rfl) rfl rfl rfl) (av_v rfl (s_var (i := 4) rfl (Or.inl rfl) rfl rfl rfl) av_nil rfl) rfl) rfl rfl rfl rfl rfl rfl)) (av_v rfl (s_var (i := 2) rfl (Or.inr (Or.inl rfl)) rfl rfl rfl) av_nil rfl) rfl) rfl rfl rfl rfl rfl rfl)) rfl (fun _ => rfl))) (ss_cons (ss_ret rfl (SE.own0 s_bl) rfl) ss_nil) ss_nil rfl) ss_nil) rfl (nmemA rfl) (fun _ => rfl)) (ss_cons (ms1 := [0, 1, 0, 0, 0, 0, 0, 0, 0, 0, 0, 0]) (ss_setT (is := [2, 3, 4]) (sg_tp rfl rfl (sgs_cons (i := 2) sc_law.nd rfl (Or.inr rfl) (Or.inl rfl) rfl (sgs_cons (i := 3) sc_law.nd rfl (Or.inl rfl) (Or.inl rfl) rfl (sgs_cons (i := 4) sc_law.nd rfl (Or.inl rfl) (Or.inl rfl) rfl sgs_nil rfl) rfl) rfl) rfl rfl) (nmemA rfl) rfl (s_idx rfl (hu65 hr) (SE.give (s_call0A (f := 21) ok rfl hr rfl g.m__law_all rfl rfl rfl)) (SE.give (s_callA (f := 16) (ks := [some 1, none]) ok rfl hr rfl g.m__law_draw tk (av_io (i := 1) rfl (Or.inr (Or.inl rfl)) rfl rfl (av_v rfl s_int av_nil rfl) rfl) rfl rfl rfl rfl rfl rfl)) rfl rfl (fun _ _ => rfl)) rfl rfl rfl) (ss_cons (ms1 := [0, 1, 0, 0, 0, 0, 0, 0, 0, 0, 0, 0]) (ss_fr po rfl (si_l rfl (SE.give (s_lst (sa_cons s_int (sa_cons s_int (sa_cons s_int (sa_cons s_int (sa_cons s_int (sa_cons s_int sa_nil rfl) rfl) rfl) rfl) rfl) rfl) rfl))) (sg_nm (i := 5) sc_law.nd rfl (Or.inl rfl) (Or.inl rfl) rfl) (ss_cons (ms1 := [0, 1, 0, 0, 0, 0, 0, 0, 0, 0, 0, 0]) (ss_set (i := 6) (n := 0) sc_law.nd ⟨rfl, (Or.inl rfl), Or.inl rfl⟩ (ltb rfl) (nmem rfl) rfl (SE.own0 (s_var (i := 2) rfl (Or.inr (Or.inl rfl)) rfl rfl rfl)) rfl) (ss_cons (ms1 := [0, 1, 0, 0, 0, 0, 0, 0, 0, 0, 0, 0]) (ss_fr po rfl (si_r1 rfl rfl g.m_range (s_var (i := 5) rfl (Or.inl rfl) rfl rfl rfl) rfl rfl) (sg_nm (i := 7) sc_law.nd rfl (Or.inl rfl) (Or.inl rfl) rfl) (ss_cons (ms1 := [0, 1, 0, 0, 0, 0, 0, 0, 0, 0, 0, 0]) (ss_set (i := 8) (n := 0) sc_law.nd ⟨rfl, (Or.inl rfl), Or.inl rfl⟩ (ltb rfl) (nmem rfl) rfl (SE.own0 (SE.give (s_callA (f := 16) (ks := [some 1, none]) ok rfl hr rfl g.m__law_draw tk (av_io (i := 1) rfl (Or.inr (Or.inl rfl)) rfl rfl (av_v rfl s_int av_nil rfl) rfl) rfl rfl rfl rfl rfl rfl))) rfl) (ss_cons (ms1 := [0, 1, 0, 0, 0, 0, 0, 0, 0, 0, 0, 0]) (ss_set (i := 6) (n := 0) sc_law.nd ⟨rfl, (Or.inl rfl), Or.inl rfl⟩ (ltb rfl) (nmem rfl) rfl (SE.own0 (SE.give (s_bin rfl (op := .add) rfl (SE.give (s_bin rfl (op := .add) rfl (SE.give (s_sl rfl (s_var (i := 6) rfl (Or.inl rfl) rfl rfl rfl) so_none (so_some (s_var (i := 8) rfl (Or.inl rfl) rfl rfl rfl) rfl) rfl)) (s_ite (st_cmp rfl (hu65 hr) (op := .eq) rfl (s_idx rfl (hu65 hr) (s_var (i := 6) rfl (Or.inl rfl) rfl rfl rfl) (s_var (i := 8) rfl (Or.inl rfl) rfl rfl rfl) rfl rfl (fun _ _ => rfl)) (s_str (t := [48]) rfl rfl) rfl rfl rfl) (s_str (t := [49]) rfl rfl) (s_str (t := [48]) rfl rfl)) rfl rfl)) (SE.give (s_sl rfl (s_var (i := 6) rfl (Or.inl rfl) rfl rfl rfl) (so_some (SE.give (s_bin rfl (op := .add) rfl (s_var (i := 8) rfl (Or.inl rfl) rfl rfl rfl) s_int rfl rfl)) rfl) so_none rfl)) rfl rfl))) rfl) ss_nil)) rfl (nmemA rfl) (fun _ => rfl)) (ss_cons (ms1 := [0, 1, 0, 0, 0, 0, 0, 0, 0, 0, 0, 0]) (ss_ite (st_nt (st_tr rfl (SE.give (s_callA (f := 17) (ks := [none, none]) ok rfl hr rfl g.m__law_equal tk (av_v rfl (SE.give (s_callA (f := 13) (ks := [none]) ok rfl hr rfl g.m_format_named tk (av_v rfl (s_var (i := 6) rfl (Or.inl rfl) rfl rfl rfl) av_nil rfl) rfl rfl rfl rfl rfl rfl)) (av_v rfl (SE.give (s_callA (f := 22) (ks := [none]) ok rfl hr rfl g.m__law_named tk (av_v rfl (s_var (i := 6) rfl (Or.inl rfl) rfl rfl rfl) av_nil rfl) rfl rfl rfl rfl rfl rfl)) av_nil rfl) rfl) rfl rfl rfl rfl rfl rfl)) rfl (fun _ => rfl))) (ss_cons (ss_ret rfl (SE.own0 s_bl) rfl) ss_nil) ss_nil rfl) ss_nil))) rfl (nmemA rfl) (fun _ => rfl)) (ss_cons (ms1 := [0, 1, 0, 0, 0, 0, 0, 0, 0, 0, 0, 0]) (ss_set (i := 6) (n := 0) sc_law.nd ⟨rfl, (Or.inl rfl), Or.inl rfl⟩ (ltb rfl) (nmem rfl) rfl (SE.own0 (SE.give (s_m1 rfl (hu65 hr) (m := .join) rfl (s_str (t := []) rfl rfl) (SE.give (s_cp rfl rfl sc_law.nd (ow := [("k", 9)]) rfl (si_r1 rfl rfl g.m_range s_int rfl rfl) (blkOk_by rfl) (fun s H Ca cl fp => (sg_nm (i := 9) sc_law.nd rfl (by first | exact Or.inl rfl | exact Or.inr rfl) (by first | exact Or.inr rfl | exact Or.inl rfl) rfl)) (fun s H Ca cl fp => sc_nil) (fun s H Ca cl fp => (SE.give (s_b1 rfl rfl (q := .str) rfl rfl g.m_str (SE.give (s_callA (f := 16) (ks := [some 1, none]) ok rfl hr rfl g.m__law_draw takes0 (av_io (i := 1) rfl (by first | exact Or.inl rfl | exact Or.inr (Or.inl rfl) | exact Or.inr (Or.inr rfl)) rfl rfl (av_v rfl s_int av_nil rfl) rfl) rfl rfl rfl rfl rfl rfl)) rfl rfl))) (zeroA rfl) (subA rfl) (fun _ => rfl))) rfl rfl rfl rfl rfl rfl))) rfl) (ss_cons (ms1 := [0, 1, 0, 0, 0, 0, 0, 0, 0, 0, 0, 0]) (ss_ite (st_w (sw_or (st_nt (st_tr rfl (SE.give (s_callA (f := 17) (ks := [none, none]) ok rfl hr rfl g.m__law_equal tk (av_v rfl (SE.give (s_callA (f := 13) (ks := [none]) ok rfl hr rfl g.m_format_named tk (av_v rfl (s_var (i := 6) rfl (Or.inl rfl) rfl rfl rfl) av_nil rfl) rfl rfl rfl rfl rfl rfl)) (av_v rfl (SE.give (s_callA (f := 22) (ks := [none]) ok rfl hr rfl g.m__law_named tk (av_v rfl (s_var (i := 6) rfl (Or.inl rfl) rfl rfl rfl) av_nil rfl) rfl rfl rfl rfl rfl rfl)) av_nil rfl) rfl) rfl rfl rfl rfl rfl rfl)) rfl (fun _ => rfl))) (sw_one (st_cmp rfl (hu65 hr) (op := .lt) rfl (SE.give (s_b1 rfl rfl (q := .min) rfl rfl g.m_min (SE.give (s_cp rfl rfl sc_law.nd (ow := [("other", 10)]) rfl (si_l rfl (SE.give (s_call0A (f := 21) ok rfl hr rfl g.m__law_all rfl rfl rfl))) (blkOk_by rfl) (fun s H Ca cl fp => (sg_nm (i := 10) sc_law.nd rfl (by first | exact Or.inl rfl | exact Or.inr rfl) (by first | exact Or.inr rfl | exact Or.inl rfl) rfl)) (fun s H Ca cl fp => sc_nil) (fun s H Ca cl fp => (SE.give (s_callA (f := 20) (ks := [none, none]) ok rfl hr rfl g.m__law_apart takes0 (av_v rfl (SE.give (s_rev rfl (s_var (i := 2) rfl (by first | exact Or.inl rfl | exact Or.inr (Or.inl rfl) | exact Or.inr (Or.inr rfl)) rfl rfl rfl) rfl)) (av_v rfl (s_idx rfl (hu65 hr) (s_var (i := 10) rfl (by first | exact Or.inl rfl | exact Or.inr (Or.inl rfl) | exact Or.inr (Or.inr rfl)) rfl rfl rfl) s_int rfl rfl (fun _ _ => rfl)) av_nil rfl) rfl) rfl rfl rfl rfl rfl rfl))) (zeroA rfl) (subA rfl) (fun _ => rfl))) rfl rfl)) s_int rfl rfl rfl)))) (ss_cons (ss_ret rfl (SE.own0 s_bl) rfl) ss_nil) ss_nil rfl) (ss_cons (ms1 := [0, 0, 0, 0, 0, 0, 0, 0, 0, 0, 0, 0]) (SS.pre (ms1 := [0, 0, 0, 0, 0, 0, 0, 0, 0, 0, 0, 0]) (ss_fr po rfl (si_l rfl (SE.give (s_lst (sa_cons (s_str (t := []) rfl rfl) (sa_cons (SE.give (s_bin rfl (op := .mul) rfl (s_str (t := [49]) rfl rfl) s_int rfl rfl)) (sa_cons (SE.give (s_bin rfl (op := .mul) rfl (s_str (t := [49]) rfl rfl) s_int rfl rfl)) (sa_cons (SE.give (s_bin rfl (op := .mul) rfl (s_str (t := [50]) rfl rfl) s_int rfl rfl)) (sa_cons s_non (sa_cons s_int sa_nil rfl) rfl) rfl) rfl) rfl) rfl) rfl))) (sg_nm (i := 11) sc_law.nd rfl (Or.inl rfl) (Or.inl rfl) rfl) (ss_cons (ms1 := [0, 0, 0, 0, 0, 0, 0, 0, 0, 0, 0, 0]) (ss_try rfl rfl tk (fun W1 pn1 xe1 tk1 po1 => (ss_cons (ms1 := [0, 0, 0, 0, 0, 0, 0, 0, 0, 0, 0, 0]) (ss_ex (s_callA (f := 13) (ks := [none]) ok rfl hr rfl g.m_format_named tk1 (av_v rfl (s_var (i := 11) rfl (Or.inl rfl) rfl rfl rfl) av_nil rfl) rfl rfl rfl rfl rfl rfl) rfl rfl) (ss_cons (ss_ret rfl (SE.own0 s_bl) rfl) ss_nil))) (sh_cons ⟨rfl, rfl, Or.inl g.m_BadText⟩ (fun a pn => (SSs.pre0 (k := 11) (ss_cons (ms1 := [0, 0, 0, 0, 0, 0, 0, 0, 0, 0, 0, 0]) ss_pass ss_nil))) (allC g.xm_BadText_BadText allN) (allC g.xm_ScanError_BadText (allC g.xm_BadArgument_BadText allN)) sh_nil)) ss_nil) rfl (nmemA rfl) (fun _ => rfl)) rfl) (ss_cons (ms1 := [0, 0, 0, 0, 0, 0, 0, 0, 0, 0, 0, 0]) (ss_fr po rfl (si_l rfl (SE.give (s_lst (sa_cons (s_tup (sa_cons (s_str (t := [88]) rfl rfl) (sa_cons s_int sa_nil rfl) rfl) rfl) (sa_cons (s_tup (sa_cons (s_str (t := [76]) rfl rfl) (sa_cons s_int sa_nil rfl) rfl) rfl) (sa_cons (s_tup (sa_cons (s_str (t := [76]) rfl rfl) (sa_cons (s_neg s_int rfl) sa_nil rfl) rfl) rfl) (sa_cons (s_tup (sa_cons (s_str (t := [76]) rfl rfl) (sa_cons s_bl sa_nil rfl) rfl) rfl) (sa_cons (s_tup (sa_cons s_non (sa_cons s_int sa_nil rfl) rfl) rfl) (sa_cons (s_tup (sa_cons (s_str (t := [108]) rfl rfl) (sa_cons s_int sa_nil rfl) rfl) rfl) sa_nil rfl) rfl) rfl) rfl) rfl) rfl) rfl))) (sg_nm (i := 11) sc_law.nd rfl (Or.inl rfl) (Or.inl rfl) rfl) (ss_cons (ms1 := [0, 0, 0, 0, 0, 0, 0, 0, 0, 0, 0, 0]) (ss_try rfl rfl tk (fun W1 pn1 xe1 tk1 po1 => (ss_cons (ms1 := [0, 0, 0, 0, 0, 0, 0, 0, 0, 0, 0, 0]) (ss_ex (s_callA (f := 10) (ks := [none, none]) ok rfl hr rfl g.m_format_bits tk1 (av_v rfl (s_idx rfl (hu65 hr) (s_var (i := 11) rfl (Or.inl rfl) rfl rfl rfl) s_int rfl rfl (fun _ _ => rfl)) (av_v rfl (s_idx rfl (hu65 hr) (s_var (i := 11) rfl (Or.inl rfl) rfl rfl rfl) s_int rfl rfl (fun _ _ => rfl)) av_nil rfl) rfl) rfl rfl rfl rfl rfl rfl) rfl rfl) (ss_cons (ss_ret rfl (SE.own0 s_bl) rfl) ss_nil))) (sh_cons ⟨rfl, rfl, Or.inl g.m_BadArgument⟩ (fun a pn => (SSs.pre0 (k := 11) (ss_cons (ms1 := [0, 0, 0, 0, 0, 0, 0, 0, 0, 0, 0, 0]) ss_pass ss_nil))) (allC g.xm_BadArgument_BadArgument allN) (allC g.xm_ScanError_BadArgument (allC g.xm_BadText_BadArgument allN)) sh_nil)) ss_nil) rfl (nmemA rfl) (fun _ => rfl)) (ss_cons (ss_ret rfl (SE.own0 s_bl) rfl) ss_nil)))))))))
theorem gs_of {h : Heap} (X : K.In h) (G : h.Ns mainGlobals mg) (c : He.SaysD fa fn K) (cz : consB K cons = true ∧ TabsOk K w tabs) : Gs K w mg where
  m_ScanError := He.glo_ok X G (c.fact 0 (f := .glo "ScanError") rfl)
  m_BadText := He.glo_ok X G (c.fact 1 (f := .glo "BadText") rfl)
  m_BadArgument := He.glo_ok X G (c.fact 2 (f := .glo "BadArgument") rfl)
  m_is_number := He.glo_ok X G (c.fact 3 (f := .glo "is_number") rfl)
  m_check_number := He.glo_ok X G (c.fact 4 (f := .glo "check_number") rfl)
  m_is_text := He.glo_ok X G (c.fact 5 (f := .glo "is_text") rfl)
  m_bits_of := He.glo_ok X G (c.fact 6 (f := .glo "bits_of") rfl)
  m_rest_of := He.glo_ok X G (c.fact 7 (f := .glo "rest_of") rfl)
  m_LEVELS := He.glo_ok X G (c.fact 8 (f := .glo "LEVELS") rfl)
  m_LEVEL_BITS := He.glo_ok X G (c.fact 9 (f := .glo "LEVEL_BITS") rfl)
  m_FORMAT_POLY := He.int_ok X G (c.fact 10 (f := .int "FORMAT_POLY" 1335) rfl)
  m_FORMAT_MASK := He.str_ok X G (c.fact 11 (f := .str "FORMAT_MASK" "101010000010010") rfl)
  m_check_level := He.glo_ok X G (c.fact 12 (f := .glo "check_level") rfl)
  m_bits_text := He.glo_ok X G (c.fact 13 (f := .glo "bits_text") rfl)
  m_number_of := He.glo_ok X G (c.fact 14 (f := .glo "number_of") rfl)
  m_exchanged := He.glo_ok X G (c.fact 15 (f := .glo "exchanged") rfl)
  m_format_of := He.glo_ok X G (c.fact 16 (f := .glo "format_of") rfl)
  m_format_bits := He.glo_ok X G (c.fact 17 (f := .glo "format_bits") rfl)
  m_apart := He.glo_ok X G (c.fact 18 (f := .glo "apart") rfl)
  m_nearest_format := He.glo_ok X G (c.fact 19 (f := .glo "nearest_format") rfl)
  m_format_named := He.glo_ok X G (c.fact 20 (f := .glo "format_named") rfl)
  m__law_mixed := He.glo_ok X G (c.fact 21 (f := .glo "_law_mixed") rfl)
  m__law_numbers := He.glo_ok X G (c.fact 22 (f := .glo "_law_numbers") rfl)
  m__law_draw := He.glo_ok X G (c.fact 23 (f := .glo "_law_draw") rfl)
  m__law_equal := He.glo_ok X G (c.fact 24 (f := .glo "_law_equal") rfl)
  m__law_all_equal := He.glo_ok X G (c.fact 25 (f := .glo "_law_all_equal") rfl)
  m__law_words := He.glo_ok X G (c.fact 26 (f := .glo "_law_words") rfl)
  m__law_apart := He.glo_ok X G (c.fact 27 (f := .glo "_law_apart") rfl)
  m__law_all := He.glo_ok X G (c.fact 28 (f := .glo "_law_all") rfl)
  m__law_named := He.glo_ok X G (c.fact 29 (f := .glo "_law_named") rfl)
  m_law := He.glo_ok X G (c.fact 30 (f := .glo "law") rfl)
  m_bool := He.free_ok X G (c.fact 31 (f := .free "bool") rfl)
  m_int := He.free_ok X G (c.fact 32 (f := .free "int") rfl)
  m_isinstance := He.free_ok X G (c.fact 33 (f := .free "isinstance") rfl)
  m_len := He.free_ok X G (c.fact 34 (f := .free "len") rfl)
  m_list := He.free_ok X G (c.fact 35 (f := .free "list") rfl)
  m_min := He.free_ok X G (c.fact 36 (f := .free "min") rfl)
  m_range := He.free_ok X G (c.fact 37 (f := .free "range") rfl)
  m_sorted := He.free_ok X G (c.fact 38 (f := .free "sorted") rfl)
  m_str := He.free_ok X G (c.fact 39 (f := .free "str") rfl)
  m_tuple := He.free_ok X G (c.fact 40 (f := .free "tuple") rfl)
  x_ScanError := He.exc_ok (c.fact 41 (f := .exc "ScanError") rfl)
  x_BadText := He.exc_ok (c.fact 42 (f := .exc "BadText") rfl)
  x_BadArgument := He.exc_ok (c.fact 43 (f := .exc "BadArgument") rfl)
  xm_ScanError_BadText := He.exm_ok (c.fact 44 (f := .exm "ScanError" "BadText" false) rfl)
  xm_ScanError_BadArgument := He.exm_ok (c.fact 45 (f := .exm "ScanError" "BadArgument" false) rfl)
  xm_BadText_BadText := He.exm_ok (c.fact 46 (f := .exm "BadText" "BadText" true) rfl)
  xm_BadText_BadArgument := He.exm_ok (c.fact 47 (f := .exm "BadText" "BadArgument" false) rfl)
  xm_BadArgument_BadText := He.exm_ok (c.fact 48 (f := .exm "BadArgument" "BadText" false) rfl)
  xm_BadArgument_BadArgument := He.exm_ok (c.fact 49 (f := .exm "BadArgument" "BadArgument" true) rfl)
  v_LEVELS := fun G => consB_at (D := dm K) cz.1 (i := 0) rfl (by first | exact .inl rfl | exact .inr rfl) G
  k_LEVEL_BITS := cz.2 _ (List.mem_of_getElem? (i := 0) rfl)
  t_LEVELS := consT_at (D := dm K) cz.1 (i := 0) rfl
theorem all_ok (g : Gs K w mg) (c : He.SaysD fa fn K) : ∀ n, AllOk P w K mg base (dm K) T sigs n := by
  refine allOk fun i sg hs => ?_
  match i, hs with
  | 0, hs =>
    cases hs
    obtain ⟨fd, F⟩ := c.def_ 0 (d := d_is_number) rfl
    exact ⟨fd, F.bindsN (ps := ["value", "low", "high"]) fun _ _ _ _ _ _ us hl => match us, hl with | [_, _, _], _ => rfl, F.kp, FunD.lk F, fun n ok => fn_ok (N := ["value", "low", "high"]) (ms1 := [0, 0, 0]) (fdd := f_is_number) F sc_is_number (fun vs => rfl) rfl rfl rfl rfl rfl rfl rfl fun cdv A outer s H E hr => b_is_number g ok _ cdv A outer s H E hr⟩
  | 1, hs =>
    cases hs
    obtain ⟨fd, F⟩ := c.def_ 1 (d := d_check_number) rfl
    exact ⟨fd, F.bindsN (ps := ["value", "low", "high"]) fun _ _ _ _ _ _ us hl => match us, hl with | [_, _, _], _ => rfl, F.kp, FunD.lk F, fun n ok => fn_ok (N := ["value", "low", "high"]) (ms1 := [0, 0, 0]) (fdd := f_check_number) F sc_check_number (fun vs => rfl) rfl rfl rfl rfl rfl rfl rfl fun cdv A outer s H E hr => b_check_number g ok _ cdv A outer s H E hr⟩
  | 2, hs =>
    cases hs
    obtain ⟨fd, F⟩ := c.def_ 2 (d := d_is_text) rfl
    exact ⟨fd, F.bindsN (ps := ["value", "signs", "least", "most"]) fun _ _ _ _ _ _ us hl => match us, hl with | [_, _, _, _], _ => rfl, F.kp, FunD.lk F, fun n ok => fn_ok (N := ["value", "signs", "least", "most", "sign"]) (ms1 := [0, 0, 0, 0, 0]) (fdd := f_is_text) F sc_is_text (fun vs => rfl) rfl rfl rfl rfl rfl rfl rfl fun cdv A outer s H E hr => b_is_text g ok _ cdv A outer s H E hr⟩
  | 3, hs =>
    cases hs
    obtain ⟨fd, F⟩ := c.def_ 3 (d := d_bits_of) rfl
    exact ⟨fd, F.bindsN (ps := ["a"]) fun _ _ _ _ _ _ us hl => match us, hl with | [_], _ => rfl, F.kp, FunD.lk F, fun n ok => fn_ok (N := ["a", "many"]) (ms1 := [0, 0]) (fdd := f_bits_of) F sc_bits_of (fun vs => rfl) rfl rfl rfl rfl rfl rfl rfl fun cdv A outer s H E hr => b_bits_of g ok _ cdv A outer s H E hr⟩
  | 4, hs =>
    cases hs
    obtain ⟨fd, F⟩ := c.def_ 4 (d := d_rest_of) rfl
    exact ⟨fd, F.bindsN (ps := ["a", "b"]) fun _ _ _ _ _ _ us hl => match us, hl with | [_, _], _ => rfl, F.kp, FunD.lk F, fun n ok => fn_ok (N := ["a", "b", "size", "shifted", "k"]) (ms1 := [0, 0, 0, 0, 0]) (fdd := f_rest_of) F sc_rest_of (fun vs => rfl) rfl rfl rfl rfl rfl rfl rfl fun cdv A outer s H E hr => b_rest_of g ok _ cdv A outer s H E hr⟩
  | 5, hs =>
    cases hs
    obtain ⟨fd, F⟩ := c.def_ 5 (d := d_check_level) rfl
    exact ⟨fd, F.bindsN (ps := ["level"]) fun _ _ _ _ _ _ us hl => match us, hl with | [_], _ => rfl, F.kp, FunD.lk F, fun n ok => fn_ok (N := ["level"]) (ms1 := [0]) (fdd := f_check_level) F sc_check_level (fun vs => rfl) rfl rfl rfl rfl rfl rfl rfl fun cdv A outer s H E hr => b_check_level g ok _ cdv A outer s H E hr⟩
  | 6, hs =>
    cases hs
    obtain ⟨fd, F⟩ := c.def_ 6 (d := d_bits_text) rfl
    exact ⟨fd, F.bindsN (ps := ["number", "many"]) fun _ _ _ _ _ _ us hl => match us, hl with | [_, _], _ => rfl, F.kp, FunD.lk F, fun n ok => fn_ok (N := ["number", "many", "found", "k"]) (ms1 := [0, 0, 0, 0]) (fdd := f_bits_text) F sc_bits_text (fun vs => rfl) rfl rfl rfl rfl rfl rfl rfl fun cdv A outer s H E hr => b_bits_text g ok _ cdv A outer s H E hr⟩
  | 7, hs =>
    cases hs
    obtain ⟨fd, F⟩ := c.def_ 7 (d := d_number_of) rfl
    exact ⟨fd, F.bindsN (ps := ["bits"]) fun _ _ _ _ _ _ us hl => match us, hl with | [_], _ => rfl, F.kp, FunD.lk F, fun n ok => fn_ok (N := ["bits", "found", "bit"]) (ms1 := [0, 0, 0]) (fdd := f_number_of) F sc_number_of (fun vs => rfl) rfl rfl rfl rfl rfl rfl rfl fun cdv A outer s H E hr => b_number_of g ok _ cdv A outer s H E hr⟩
  | 8, hs =>
    cases hs
    obtain ⟨fd, F⟩ := c.def_ 8 (d := d_exchanged) rfl
    exact ⟨fd, F.bindsN (ps := ["bits", "where"]) fun _ _ _ _ _ _ us hl => match us, hl with | [_, _], _ => rfl, F.kp, FunD.lk F, fun n ok => fn_ok (N := ["bits", "where", "k"]) (ms1 := [0, 0, 0]) (fdd := f_exchanged) F sc_exchanged (fun vs => rfl) rfl rfl rfl rfl rfl rfl rfl fun cdv A outer s H E hr => b_exchanged g ok _ cdv A outer s H E hr⟩
  | 9, hs =>
    cases hs
    obtain ⟨fd, F⟩ := c.def_ 9 (d := d_format_of) rfl
    exact ⟨fd, F.bindsN (ps := ["level", "mask"]) fun _ _ _ _ _ _ us hl => match us, hl with | [_, _], _ => rfl, F.kp, FunD.lk F, fun n ok => fn_ok (N := ["level", "mask", "five", "rest"]) (ms1 := [0, 0, 0, 0]) (fdd := f_format_of) F sc_format_of (fun vs => rfl) rfl rfl rfl rfl rfl rfl rfl fun cdv A outer s H E hr => b_format_of g ok _ cdv A outer s H E hr⟩
  | 10, hs =>
    cases hs
    obtain ⟨fd, F⟩ := c.def_ 10 (d := d_format_bits) rfl
    exact ⟨fd, F.bindsN (ps := ["level", "mask"]) fun _ _ _ _ _ _ us hl => match us, hl with | [_, _], _ => rfl, F.kp, FunD.lk F, fun n ok => fn_ok (N := ["level", "mask"]) (ms1 := [0, 0]) (fdd := f_format_bits) F sc_format_bits (fun vs => rfl) rfl rfl rfl rfl rfl rfl rfl fun cdv A outer s H E hr => b_format_bits g ok _ cdv A outer s H E hr⟩
  | 11, hs =>
    cases hs
    obtain ⟨fd, F⟩ := c.def_ 11 (d := d_apart) rfl
    exact ⟨fd, F.bindsN (ps := ["one", "other"]) fun _ _ _ _ _ _ us hl => match us, hl with | [_, _], _ => rfl, F.kp, FunD.lk F, fun n ok => fn_ok (N := ["one", "other", "k"]) (ms1 := [0, 0, 0]) (fdd := f_apart) F sc_apart (fun vs => rfl) rfl rfl rfl rfl rfl rfl rfl fun cdv A outer s H E hr => b_apart g ok _ cdv A outer s H E hr⟩
  | 12, hs =>
    cases hs
    obtain ⟨fd, F⟩ := c.def_ 12 (d := d_nearest_format) rfl
    exact ⟨fd, F.bindsN (ps := ["bits"]) fun _ _ _ _ _ _ us hl => match us, hl with | [_], _ => rfl, F.kp, FunD.lk F, fun n ok => fn_ok (N := ["bits", "found", "level", "mask", "least", "told", "near"]) (ms1 := [0, 0, 0, 0, 0, 0, 0]) (fdd := f_nearest_format) F sc_nearest_format (fun vs => rfl) rfl rfl rfl rfl rfl rfl rfl fun cdv A outer s H E hr => b_nearest_format g ok _ cdv A outer s H E hr⟩
  | 13, hs =>
    cases hs
    obtain ⟨fd, F⟩ := c.def_ 13 (d := d_format_named) rfl
    exact ⟨fd, F.bindsN (ps := ["bits"]) fun _ _ _ _ _ _ us hl => match us, hl with | [_], _ => rfl, F.kp, FunD.lk F, fun n ok => fn_ok (N := ["bits"]) (ms1 := [0]) (fdd := f_format_named) F sc_format_named (fun vs => rfl) rfl rfl rfl rfl rfl rfl rfl fun cdv A outer s H E hr => b_format_named g ok _ cdv A outer s H E hr⟩
  | 14, hs =>
    cases hs
    obtain ⟨fd, F⟩ := c.def_ 14 (d := d__law_mixed) rfl
    exact ⟨fd, F.bindsN (ps := ["number", "k"]) fun _ _ _ _ _ _ us hl => match us, hl with | [_, _], _ => rfl, F.kp, FunD.lk F, fun n ok => fn_ok (N := ["number", "k", "step"]) (ms1 := [0, 0, 0]) (fdd := f__law_mixed) F sc__law_mixed (fun vs => rfl) rfl rfl rfl rfl rfl rfl rfl fun cdv A outer s H E hr => b__law_mixed g ok _ cdv A outer s H E hr⟩
  | 15, hs =>
    cases hs
    obtain ⟨fd, F⟩ := c.def_ 15 (d := d__law_numbers) rfl
    exact ⟨fd, F.bindsN (ps := ["script"]) fun _ _ _ _ _ _ us hl => match us, hl with | [_], _ => rfl, F.kp, FunD.lk F, fun n ok => fn_ok (N := ["script", "numbers", "cell", "rest", "k"]) (ms1 := [0, 0, 0, 0, 0]) (fdd := f__law_numbers) F sc__law_numbers (fun vs => rfl) rfl rfl rfl rfl rfl rfl rfl fun cdv A outer s H E hr => b__law_numbers g ok _ cdv A outer s H E hr⟩
  | 16, hs =>
    cases hs
    obtain ⟨fd, F⟩ := c.def_ 16 (d := d__law_draw) rfl
    exact ⟨fd, F.bindsN (ps := ["draws", "many"]) fun _ _ _ _ _ _ us hl => match us, hl with | [_, _], _ => rfl, F.kp, FunD.lk F, fun n ok => fn_ok (N := ["draws", "many", "at", "first"]) (ms1 := [1, 0, 0, 0]) (fdd := f__law_draw) F sc__law_draw (fun vs => rfl) rfl rfl rfl rfl rfl rfl rfl fun cdv A outer s H E hr => b__law_draw g ok _ cdv A outer s H E hr⟩
  | 17, hs =>
    cases hs
    obtain ⟨fd, F⟩ := c.def_ 17 (d := d__law_equal) rfl
    exact ⟨fd, F.bindsN (ps := ["actual", "due"]) fun _ _ _ _ _ _ us hl => match us, hl with | [_, _], _ => rfl, F.kp, FunD.lk F, fun n ok => fn_ok (N := ["actual", "due"]) (ms1 := [0, 0]) (fdd := f__law_equal) F sc__law_equal (fun vs => rfl) rfl rfl rfl rfl rfl rfl rfl fun cdv A outer s H E hr => b__law_equal g ok _ cdv A outer s H E hr⟩
  | 18, hs =>
    cases hs
    obtain ⟨fd, F⟩ := c.def_ 18 (d := d__law_all_equal) rfl
    exact ⟨fd, F.bindsN (ps := ["actual", "due"]) fun _ _ _ _ _ _ us hl => match us, hl with | [_, _], _ => rfl, F.kp, FunD.lk F, fun n ok => fn_ok (N := ["actual", "due", "k"]) (ms1 := [0, 0, 0]) (fdd := f__law_all_equal) F sc__law_all_equal (fun vs => rfl) rfl rfl rfl rfl rfl rfl rfl fun cdv A outer s H E hr => b__law_all_equal g ok _ cdv A outer s H E hr⟩
  | 19, hs =>
    cases hs
    obtain ⟨fd, F⟩ := c.def_ 19 (d := d__law_words) rfl
    exact ⟨fd, F.bindsN (ps := []) fun _ _ _ _ _ _ us hl => match us, hl with | [], _ => rfl, F.kp, FunD.lk F, fun n ok => fn_ok (N := []) (ms1 := []) (fdd := f__law_words) F sc__law_words (fun vs => rfl) rfl rfl rfl rfl rfl rfl rfl fun cdv A outer s H E hr => b__law_words g ok _ cdv A outer s H E hr⟩
  | 20, hs =>
    cases hs
    obtain ⟨fd, F⟩ := c.def_ 20 (d := d__law_apart) rfl
    exact ⟨fd, F.bindsN (ps := ["one", "other"]) fun _ _ _ _ _ _ us hl => match us, hl with | [_, _], _ => rfl, F.kp, FunD.lk F, fun n ok => fn_ok (N := ["one", "other", "k"]) (ms1 := [0, 0, 0]) (fdd := f__law_apart) F sc__law_apart (fun vs => rfl) rfl rfl rfl rfl rfl rfl rfl fun cdv A outer s H E hr => b__law_apart g ok _ cdv A outer s H E hr⟩
  | 21, hs =>
    cases hs
    obtain ⟨fd, F⟩ := c.def_ 21 (d := d__law_all) rfl
    exact ⟨fd, F.bindsN (ps := []) fun _ _ _ _ _ _ us hl => match us, hl with | [], _ => rfl, F.kp, FunD.lk F, fun n ok => fn_ok (N := ["found", "level", "words", "mask"]) (ms1 := [0, 0, 0, 0]) (fdd := f__law_all) F sc__law_all (fun vs => rfl) rfl rfl rfl rfl rfl rfl rfl fun cdv A outer s H E hr => b__law_all g ok _ cdv A outer s H E hr⟩
  | 22, hs =>
    cases hs
    obtain ⟨fd, F⟩ := c.def_ 22 (d := d__law_named) rfl
    exact ⟨fd, F.bindsN (ps := ["bits"]) fun _ _ _ _ _ _ us hl => match us, hl with | [_], _ => rfl, F.kp, FunD.lk F, fun n ok => fn_ok (N := ["bits", "every", "word", "level", "mask"]) (ms1 := [0, 0, 0, 0, 0]) (fdd := f__law_named) F sc__law_named (fun vs => rfl) rfl rfl rfl rfl rfl rfl rfl fun cdv A outer s H E hr => b__law_named g ok _ cdv A outer s H E hr⟩
  | n + 23, hs => cases hs
theorem fn_law (g : Gs K w mg) (c : He.SaysD fa fn K) {fd : FuncData} (F : FunD K "law" "law" (defArgs s_law) (defBody s_law) (defScope s_law) [] [] ((dm K).fa 23) fd) (n : Nat) : FnOk P w K mg base CX0 (n + 1) ((dm K).fa 23) fd ["script"] (fun vs H Q _ => spF (dm K) (callF T (n + 1)) 23 [false] [0] 0 vs H Q (fun _ _ _ => False)) :=
  fn_okG (CXx := CX0) (fun _ _ _ _ => False) (N := ["script", "draws", "word", "level", "mask", "many", "bits", "turn", "at", "k", "other", "bad"]) (ms1 := [0, 0, 0, 0, 0, 0, 0, 0, 0, 0, 0, 0]) (fdd := f_law) F sc_law (fun vs => rfl) rfl rfl rfl rfl rfl rfl rfl fun cdv A outer s H E hr => b_law g (all_ok g c n) _ cdv A outer s H E hr
end
end My

namespace My
open Ev Ev.Pre
theorem lv0 (k : Nat) (vs : List PV) : callF T (k + 1) 0 vs = runF f_is_number (callF T k) vs := rfl
theorem lv1 (k : Nat) (vs : List PV) : callF T (k + 1) 1 vs = runF f_check_number (callF T k) vs := rfl
theorem lv2 (k : Nat) (vs : List PV) : callF T (k + 1) 2 vs = runF f_is_text (callF T k) vs := rfl
theorem lv3 (k : Nat) (vs : List PV) : callF T (k + 1) 3 vs = runF f_bits_of (callF T k) vs := rfl
theorem lv4 (k : Nat) (vs : List PV) : callF T (k + 1) 4 vs = runF f_rest_of (callF T k) vs := rfl
theorem lv5 (k : Nat) (vs : List PV) : callF T (k + 1) 5 vs = runF f_check_level (callF T k) vs := rfl
theorem lv6 (k : Nat) (vs : List PV) : callF T (k + 1) 6 vs = runF f_bits_text (callF T k) vs := rfl
theorem lv7 (k : Nat) (vs : List PV) : callF T (k + 1) 7 vs = runF f_number_of (callF T k) vs := rfl
theorem lv8 (k : Nat) (vs : List PV) : callF T (k + 1) 8 vs = runF f_exchanged (callF T k) vs := rfl
theorem lv9 (k : Nat) (vs : List PV) : callF T (k + 1) 9 vs = runF f_format_of (callF T k) vs := rfl
theorem lv10 (k : Nat) (vs : List PV) : callF T (k + 1) 10 vs = runF f_format_bits (callF T k) vs := rfl
theorem lv11 (k : Nat) (vs : List PV) : callF T (k + 1) 11 vs = runF f_apart (callF T k) vs := rfl
theorem lv12 (k : Nat) (vs : List PV) : callF T (k + 1) 12 vs = runF f_nearest_format (callF T k) vs := rfl
theorem lv13 (k : Nat) (vs : List PV) : callF T (k + 1) 13 vs = runF f_format_named (callF T k) vs := rfl
theorem lv14 (k : Nat) (vs : List PV) : callF T (k + 1) 14 vs = runF f__law_mixed (callF T k) vs := rfl
theorem lv15 (k : Nat) (vs : List PV) : callF T (k + 1) 15 vs = runF f__law_numbers (callF T k) vs := rfl
theorem lv16 (k : Nat) (vs : List PV) : callF T (k + 1) 16 vs = runF f__law_draw (callF T k) vs := rfl
theorem lv17 (k : Nat) (vs : List PV) : callF T (k + 1) 17 vs = runF f__law_equal (callF T k) vs := rfl
theorem lv18 (k : Nat) (vs : List PV) : callF T (k + 1) 18 vs = runF f__law_all_equal (callF T k) vs := rfl
theorem lv19 (k : Nat) (vs : List PV) : callF T (k + 1) 19 vs = runF f__law_words (callF T k) vs := rfl
theorem lv20 (k : Nat) (vs : List PV) : callF T (k + 1) 20 vs = runF f__law_apart (callF T k) vs := rfl
theorem lv21 (k : Nat) (vs : List PV) : callF T (k + 1) 21 vs = runF f__law_all (callF T k) vs := rfl
theorem lv22 (k : Nat) (vs : List PV) : callF T (k + 1) 22 vs = runF f__law_named (callF T k) vs := rfl
theorem lv23 (k : Nat) (vs : List PV) : callF T (k + 1) 23 vs = runF f_law (callF T k) vs := rfl
theorem mix_at (k : Nat) : MixAt (callF T (k + 1)) 14 := fun n j => mixed_spec _ n j
theorem draw_at (k : Nat) : Draw2At (callF T (k + 2)) 16 := fun d hd b hb => draw2_spec (m := 14) (mix_at k) hd b hb
theorem eq_at {d : Nat} {v : PV} (hv : Pl d v) (h : 2 * d + 1 ≤ 24) : callF T 24 17 [v, v] = .ok (.bl true) [] := equal_spec (T := T) (me := 17) (ma := 18) rfl (by first | exact .inl rfl | exact .inr rfl) rfl d 24 v hv h
theorem num_at (k : Nat) (x lo hi : Int) : callF T (k + 1) 0 [.int x, .int lo, .int hi] = .ok (.bl (decide (lo ≤ x) && decide (x ≤ hi))) [] := num_i _ x lo hi
theorem law_start (ns : List Int) (hn : ns.length ≤ 63) : ∃ l : List Int, callF T 24 15 [.obj 0 (ns.map .int)] = .ok (.lst (l.map .int)) [] ∧ Draws (.lst [.lst (l.map .int), .int 0]) := by
  obtain ⟨l, h1, hl, _⟩ := numbers_spec (C := callF T 23) (m := 14) (mix_at 22) ns hn
  exact ⟨l, (lv15 23 _).trans h1, l, 0, rfl, hl, Int.le_refl _⟩
def xit0 : CS := .ite (.or (.nt (.isi (.var 0) .str)) (.nt (.chn .le .le (.var 2) (.b1 .len (.var 0)) (.var 3)))) [.ret (.bl false)] []
def xit1 : CS := .ret (.cmp .eq (.cp 0 [4] (.nm 4) (.of 2 (.var 0)) (some (.cmp .nin (.var 4) (.var 1))) (.var 4)) (.lst 1 []))
def xit : List CS := [xit0, xit1]
theorem xit_eq : c_is_text = xit := rfl
def xap0 : CS := .ret (.b1 .len (.cp 0 [2] (.nm 2) (.r1 (.b1 .len (.var 0))) (some (.cmp .ne (.idx (.var 0) (.var 2)) (.idx (.var 1) (.var 2)))) (.var 2)))
def xap : List CS := [xap0]
theorem xap_eq : c_apart = xap := rfl
def xne0 : CS := .set 1 (.lst 1 [])
def xne1b0 : CS := .set 1 (.bin .add (.var 1) (.cp 0 [3] (.nm 3) (.r1 (.int 8)) none (.tup [(.call 11 [(.var 0), (.call 9 [(.var 2), (.var 3)])]), (.var 2), (.var 3)])))
def xne1b : List CS := [xne1b0]
abbrev xne1 : CS := .fr (.nm 2) (.of 1 (.gl 0 k_LEVELS)) xne1b
def xne2 : CS := .set 4 (.b1 .min (.cp 0 [5] (.nm 5) (.of 0 (.var 1)) none (.idx (.var 5) (.int 0))))
def xne3 : CS := .set 6 (.cp 0 [5] (.nm 5) (.of 0 (.var 1)) (some (.cmp .eq (.idx (.var 5) (.int 0)) (.var 4))) (.var 5))
def xne4 : CS := .ret (.ite (.an (.cmp .eq (.b1 .len (.var 6)) (.int 1)) (.cmp .le (.var 4) (.int 3))) (.tup [(.str [114, 101, 97, 100]), (.idx (.idx (.var 6) (.int 0)) (.int 1)), (.idx (.idx (.var 6) (.int 0)) (.int 2)), (.var 4)]) .non)
def xne : List CS := [xne0, xne1, xne2, xne3, xne4]
theorem xne_eq : c_nearest_format = xne := rfl
def xfn0 : CS := .ite (.nt (.call 2 [(.var 0), (.str [48, 49]), (.int 15), (.int 15)])) [.raise 1] []
def xfn1 : CS := .ret (.call 12 [(.var 0)])
def xfn : List CS := [xfn0, xfn1]
theorem xfn_eq : c_format_named = xfn := rfl
def xla0 : CS := .ret (.b1 .len (.cp 0 [2] (.nm 2) (.r1 (.int 15)) (some (.cmp .ne (.idx (.var 0) (.var 2)) (.idx (.var 1) (.var 2)))) (.var 2)))
def xla : List CS := [xla0]
theorem xla_eq : c__law_apart = xla := rfl
def xln0 : CS := .set 1 (.srt (.cp 0 [2, 3, 4] (.tp [2, 3, 4]) (.of 0 (.call0 21)) none (.tup [(.call 20 [(.var 0), (.var 2)]), (.var 3), (.var 4)])))
def xln1 : CS := .ite (.or (.cmp .gt (.idx (.idx (.var 1) (.int 0)) (.int 0)) (.int 3)) (.cmp .eq (.idx (.idx (.var 1) (.int 0)) (.int 0)) (.idx (.idx (.var 1) (.int 1)) (.int 0)))) [.ret .non] []
def xln2 : CS := .ret (.tup [(.str [114, 101, 97, 100]), (.idx (.idx (.var 1) (.int 0)) (.int 1)), (.idx (.idx (.var 1) (.int 0)) (.int 2)), (.idx (.idx (.var 1) (.int 0)) (.int 0))])
def xln : List CS := [xln0, xln1, xln2]
theorem xln_eq : c__law_named = xln := rfl
def xl0 : CS := .set 1 (.lst 1 [(.call 15 [(.var 0)]), (.int 0)])
def xl1b0 : CS := .ite (.nt (.call 17 [(.call 10 [(.var 3), (.var 4)]), (.var 2)])) [.ret (.bl false)] []
def xl1b : List CS := [xl1b0]
abbrev xl1 : CS := .fr (.tp [2, 3, 4]) (.of 0 (.call0 21)) xl1b
def xl2 : CS := .setT [2, 3, 4] (.idx (.call0 21) (.call 16 [(.io 1), (.int 32)]))
def xl3b0 : CS := .set 6 (.var 2)
def xl3b1b0 : CS := .set 8 (.call 16 [(.io 1), (.int 15)])
def xl3b1b1 : CS := .set 6 (.bin .add (.bin .add (.sl (.var 6) none (some (.var 8))) (.ite (.cmp .eq (.idx (.var 6) (.var 8)) (.str [48])) (.str [49]) (.str [48]))) (.sl (.var 6) (some (.bin .add (.var 8) (.int 1))) none))
def xl3b1b : List CS := [xl3b1b0, xl3b1b1]
abbrev xl3b1 : CS := .fr (.nm 7) (.r1 (.var 5)) xl3b1b
def xl3b2 : CS := .ite (.nt (.call 17 [(.call 13 [(.var 6)]), (.call 22 [(.var 6)])])) [.ret (.bl false)] []
def xl3b : List CS := [xl3b0, xl3b1, xl3b2]
abbrev xl3 : CS := .fr (.nm 5) (.of 0 (.lst 1 [(.int 0), (.int 1), (.int 2), (.int 3), (.int 4), (.int 6)])) xl3b
def xl4 : CS := .set 6 (.m1 .join (.str []) (.cp 0 [9] (.nm 9) (.r1 (.int 15)) none (.b1 .str (.call 16 [(.io 1), (.int 2)]))))
def xl5 : CS := .ite (.or (.nt (.call 17 [(.call 13 [(.var 6)]), (.call 22 [(.var 6)])])) (.cmp .lt (.b1 .min (.cp 0 [10] (.nm 10) (.of 0 (.call0 21)) none (.call 20 [(.rev (.var 2)), (.idx (.var 10) (.int 0))]))) (.int 3))) [.ret (.bl false)] []
def xl6b0 : CS := .try [.ex (.call 13 [(.var 11)]), .ret (.bl false)] [([1], [0, 2], [.pass])]
def xl6b : List CS := [xl6b0]
abbrev xl6 : CS := .fr (.nm 11) (.of 0 (.lst 1 [(.str []), (.bin .mul (.str [49]) (.int 14)), (.bin .mul (.str [49]) (.int 16)), (.bin .mul (.str [50]) (.int 15)), .non, (.int 1)])) xl6b
def xl7b0 : CS := .try [.ex (.call 10 [(.idx (.var 11) (.int 0)), (.idx (.var 11) (.int 1))]), .ret (.bl false)] [([2], [0, 1], [.pass])]
def xl7b : List CS := [xl7b0]
abbrev xl7 : CS := .fr (.nm 11) (.of 0 (.lst 1 [(.tup [(.str [88]), (.int 0)]), (.tup [(.str [76]), (.int 8)]), (.tup [(.str [76]), (.neg (.int 1))]), (.tup [(.str [76]), (.bl true)]), (.tup [.non, (.int 0)]), (.tup [(.str [108]), (.int 0)])])) xl7b
def xl8 : CS := .ret (.bl true)
def xl : List CS := [xl0, xl1, xl2, xl3, xl4, xl5, xl6, xl7, xl8]
theorem xl_eq : c_law = xl := rfl
mutual
def eqP : PV → PV → Bool
  | .int i, .int j => decide (i = j)
  | .str a, .str b => decide (a = b)
  | .lst a, .lst b => eqPs a b
  | .tup a, .tup b => eqPs a b
  | _, _ => false
def eqPs : List PV → List PV → Bool
  | [], [] => true
  | x :: xs, y :: ys => eqP x y && eqPs xs ys
  | _, _ => false
end
mutual
theorem eqP_ok : ∀ (a b : PV), eqP a b = true → a = b
  | .int i, .int j, h => by rw [eqP] at h; rw [of_decide_eq_true h]
  | .str a, .str b, h => by rw [eqP] at h; rw [of_decide_eq_true h]
  | .lst a, .lst b, h => by rw [eqP] at h; rw [eqPs_ok a b h]
  | .tup a, .tup b, h => by rw [eqP] at h; rw [eqPs_ok a b h]
  | .int _, .non, h | .int _, .bl _, h | .int _, .str _, h | .int _, .lst _, h | .int _, .tup _, h | .int _, .dic _ _ _, h | .int _, .fn _, h | .int _, .obj _ _, h => by simp [eqP] at h
  | .str _, .non, h | .str _, .bl _, h | .str _, .int _, h | .str _, .lst _, h | .str _, .tup _, h | .str _, .dic _ _ _, h | .str _, .fn _, h | .str _, .obj _ _, h => by simp [eqP] at h
  | .lst _, .non, h | .lst _, .bl _, h | .lst _, .int _, h | .lst _, .str _, h | .lst _, .tup _, h | .lst _, .dic _ _ _, h | .lst _, .fn _, h | .lst _, .obj _ _, h => by simp [eqP] at h
  | .tup _, .non, h | .tup _, .bl _, h | .tup _, .int _, h | .tup _, .str _, h | .tup _, .lst _, h | .tup _, .dic _ _ _, h | .tup _, .fn _, h | .tup _, .obj _ _, h => by simp [eqP] at h
  | .non, _, h | .bl _, _, h | .dic _ _ _, _, h | .fn _, _, h | .obj _ _, _, h => by simp [eqP] at h
theorem eqPs_ok : ∀ (a b : List PV), eqPs a b = true → a = b
  | [], [], _ => rfl
  | x :: xs, y :: ys, h => by
    rw [eqPs, Bool.and_eq_true] at h
    rw [eqP_ok x y h.1, eqPs_ok xs ys h.2]
  | [], _ :: _, h => by simp [eqPs] at h
  | _ :: _, [], h => by simp [eqPs] at h
end
def okIs (r : CR) (v : PV) : Bool := match r with
  | .ok w [] => eqP w v
  | _ => false
theorem okIs_eq {r : CR} {v : PV} (h : okIs r v = true) : r = .ok v [] := by
  unfold okIs at h
  split at h
  · rw [eqP_ok _ _ h]
  · cases h
def exIs (r : CR) (c : Nat) : Bool := match r with
  | .ex k [] => k == c
  | _ => false
theorem exIs_eq {r : CR} {c : Nat} (h : exIs r c = true) : r = .ex c [] := by
  unfold exIs at h
  split at h
  · rw [beq_iff_eq.mp h]
  · cases h

/-! ### the words -/
def WD : List (List Nat) := [[49, 49, 49, 48, 49, 49, 49, 49, 49, 48, 48, 48, 49, 48, 48], [49, 49, 49, 48, 48, 49, 48, 49, 49, 49, 49, 48, 48, 49, 49], [49, 49, 49, 49, 49, 48, 49, 49, 48, 49, 48, 49, 48, 49, 48], [49, 49, 49, 49, 48, 48, 48, 49, 48, 48, 49, 49, 49, 48, 49], [49, 49, 48, 48, 49, 49, 48, 48, 48, 49, 48, 49, 49, 49, 49], [49, 49, 48, 48, 48, 49, 49, 48, 48, 48, 49, 49, 48, 48, 48], [49, 49, 48, 49, 49, 48, 48, 48, 49, 48, 48, 48, 48, 48, 49], [49, 49, 48, 49, 48, 48, 49, 48, 49, 49, 49, 48, 49, 49, 48], [49, 48, 49, 48, 49, 48, 48, 48, 48, 48, 49, 48, 48, 49, 48], [49, 48, 49, 48, 48, 48, 49, 48, 48, 49, 48, 48, 49, 48, 49], [49, 48, 49, 49, 49, 49, 48, 48, 49, 49, 49, 49, 49, 48, 48], [49, 48, 49, 49, 48, 49, 49, 48, 49, 48, 48, 49, 48, 49, 49], [49, 48, 48, 48, 49, 48, 49, 49, 49, 49, 49, 49, 48, 48, 49], [49, 48, 48, 48, 48, 48, 48, 49, 49, 48, 48, 49, 49, 49, 48], [49, 48, 48, 49, 49, 49, 49, 49, 48, 48, 49, 48, 49, 49, 49], [49, 48, 48, 49, 48, 49, 48, 49, 48, 49, 48, 48, 48, 48, 48], [48, 49, 49, 48, 49, 48, 49, 48, 49, 48, 49, 49, 49, 49, 49], [48, 49, 49, 48, 48, 48, 48, 48, 49, 49, 48, 49, 48, 48, 48], [48, 49, 49, 49, 49, 49, 49, 48, 48, 49, 49, 48, 48, 48, 49], [48, 49, 49, 49, 48, 49, 48, 48, 48, 48, 48, 48, 49, 49, 48], [48, 49, 48, 48, 49, 48, 48, 49, 48, 49, 49, 48, 49, 48, 48], [48, 49, 48, 48, 48, 48, 49, 49, 48, 48, 48, 48, 48, 49, 49], [48, 49, 48, 49, 49, 49, 48, 49, 49, 48, 49, 49, 48, 49, 48], [48, 49, 48, 49, 48, 49, 49, 49, 49, 49, 48, 49, 49, 48, 49], [48, 48, 49, 48, 49, 49, 48, 49, 48, 48, 48, 49, 48, 48, 49], [48, 48, 49, 48, 48, 49, 49, 49, 48, 49, 49, 49, 49, 49, 48], [48, 48, 49, 49, 49, 48, 48, 49, 49, 49, 48, 48, 49, 49, 49], [48, 48, 49, 49, 48, 48, 49, 49, 49, 48, 49, 48, 48, 48, 48], [48, 48, 48, 48, 49, 49, 49, 48, 49, 49, 48, 48, 48, 49, 48], [48, 48, 48, 48, 48, 49, 48, 48, 49, 48, 49, 48, 49, 48, 49], [48, 48, 48, 49, 49, 48, 49, 48, 48, 48, 48, 49, 49, 48, 48], [48, 48, 48, 49, 48, 48, 48, 48, 48, 49, 49, 49, 48, 49, 49]]
def LV : List Nat := [76, 77, 81, 72]
def lvl (i : Nat) : Nat := LV.getD (i / 8) 0
def wd (i : Nat) : List Nat := WD.getD i []
def AT (i : Nat) : PV := .tup [.str (wd i), .str [lvl i], .int (i % 8 : Nat)]
def ALL : List PV := (List.range 32).map AT
theorem f9 : ((List.range 4).all fun j => (List.range 8).all fun m => okIs (callF T 22 9 [.str [LV.getD j 0], .int (m : Nat)]) (.str (wd (8 * j + m)))) = true := by decide +kernel
theorem f10 : ((List.range 32).all fun i => okIs (callF T 24 10 [.str [lvl i], .int (i % 8 : Nat)]) (.str (wd i))) = true := by decide +kernel
theorem f21a : callF T 24 21 [] = .ok (.lst ALL) [] := okIs_eq (by decide +kernel)
theorem f21b : callF T 23 21 [] = .ok (.lst ALL) [] := okIs_eq (by decide +kernel)
def BAD1 : List PV := [.str [], .str (List.replicate 14 49), .str (List.replicate 16 49), .str (List.replicate 15 50), .non, .int 1]
def BAD2 : List (PV × PV) := [(.str [88], .int 0), (.str [76], .int 8), (.str [76], .int (-1)), (.str [76], .bl true), (.non, .int 0), (.str [108], .int 0)]
theorem f13 : (BAD1.all fun b => exIs (callF T 24 13 [b]) 1) = true := by decide +kernel
theorem f10b : (BAD2.all fun p => exIs (callF T 24 10 [p.1, p.2]) 2) = true := by decide +kernel
def hd (a b : List Nat) : Nat := ((List.range 15).filter fun k => decide (a.getD k 0 ≠ b.getD k 0)).length
theorem far : ((List.range 32).all fun i => (List.range 32).all fun j => decide (3 ≤ hd (wd i).reverse (wd j))) = true := by decide +kernel
theorem wd15 : ((List.range 32).all fun i => decide ((wd i).length = 15) && (wd i).all fun c => c == 48 || c == 49) = true := by decide +kernel
end My

namespace My
open Ev Ev.Pre
theorem cne (x y : Nat) : cop .ne (.str [x]) (.str [y]) = some (decide (x ≠ y)) := by
  rw [cop_nes]
  by_cases h : x = y <;> simp [h]
theorem pix_s {a : List Nat} {k : Nat} (h : k < a.length) : pix a (k : Int) = some (a.getD k 0) := by
  unfold pix
  rw [if_pos (by omega), Int.toNat_natCast]
  simp [h]
def CNT (a b : List Nat) : List PV := ((List.range 15).filter fun k => decide (a.getD k 0 ≠ b.getD k 0)).map fun k => .int (k : Nat)
theorem CNT_len (a b : List Nat) : b1 .len (.lst (CNT a b)) = some (.int (hd a b : Nat)) := by
  unfold CNT hd
  rw [b1_lenl, List.length_map]
theorem cnt_cp {C : Calls} {a b : List Nat} {it : CI} (ha : a.length = 15) (hb : b.length = 15) (h : evI C it [some (.str a), some (.str b), none] = .ok (rangeI 0 1 15) [some (.str a), some (.str b), none]) : evE C (.cp 0 [2] (.nm 2) it (some (.cmp .ne (.idx (.var 0) (.var 2)) (.idx (.var 1) (.var 2)))) (.var 2)) [some (.str a), some (.str b), none] = .ok (.lst (CNT a b)) [some (.str a), some (.str b), none] := by
  rw [rangeI_eq0] at h
  refine (cp_sift (xs := (List.range 15).map fun k => PV.int (k : Nat)) (env1 := [some (.str a), some (.str b), none]) (fun x => match x with
    | .int c => decide (a.getD c.toNat 0 ≠ b.getD c.toNat 0)
    | _ => false) (fun x => x) (by simp) h (fun x hx => ?_) (fun x hx _ => ?_) (by simp; decide)).trans ?_
  · obtain ⟨k, hk, rfl⟩ := List.mem_map.mp hx
    have hk := List.mem_range.mp hk
    have p1 := pix_s (a := a) (k := k) (by omega)
    have p2 := pix_s (a := b) (k := k) (by omega)
    simp -implicitDefEqProofs only [R.bind_ok', R.bind_ex', R.of_some, R.then_ok, R.then_ex, O.then_nx, O.then_rt, O.then_ex, O.then_ct, O.then_bk, getV0, getVs, tst_ok, tst_ex, R.of_none, e_non, e_bl, e_int, e_str, e_var, e_bv, e_gl, e_bin, e_neg, e_nt, e_an, e_or, e_cmp, e_chn, e_ite, e_lst, e_tup, e_idx, e_sl, e_rev, e_call, e_call0, e_callv, nox_ok, e_b1, e_b2, e_isi, e_m1, e_lrg, es_nil, es_cons, ea_nil, ea_io, ea_non, ea_bl, ea_int, ea_str, ea_var, ea_gl, ea_bin, ea_neg, ea_nt, ea_an, ea_or, ea_cmp, ea_chn, ea_ite, ea_lst, ea_tup, ea_idx, ea_sl, ea_rev, ea_call, ea_b1, ea_b2, ea_isi, ea_m1, ea_lrg, ea_cp, ea_mv, eo_none, eo_some, ec_none, ec_some, ei_of, ei_r1, ei_r2, x_ex, x_set, x_setT, x_par, x_sto, x_sto2, x_app1, x_augS, x_app, x_rvs, revv_l, revB_l, revB_s, x_aug, x_ret, x_retN, x_ite, x_raise, xh_nil, xh_cons, nxo_rt, nxo_nx, x_pass, x_brk, x_cnt, xs_nil, xs_cons, bop_add, bop_sub, bop_mul, bop_fdiv, bop_mod, bop_pow, bop_addl, bop_adds, bop_mull, bop_muls, aop_add, aop_sub, cop_eqi, cop_nei, cop_eqs, cop_nes, cop_eqb, cop_lt, cop_le, cop_gt, cop_ge, cop_lts, cop_les, cop_is, cop_isn, b1_lenl, b1_lent, b1_lens, b1_sum, b1_abs, b1_list, b1_listt, b1_lists, b1_tuple, idx_l, idxL_l, idx_t, idx_s, truth_bl, truth_int, truth_lst, truth_tup, truth_str, truth_non, at_nil, on_nil, items0, items1, items2, items3, set_nm, set_tp, sm_nil, sm_cons, av_nil', av_cons, avg_v, avg_io, pb_nil, pb_io, pb_v, hb_nil, hb_v, hb_io, do_call, hk_l, hk_t, hk_s, hk_i, hk_b, hk_n, fins_nil, fins_cons, b2_min, b2_max, cop_neb, slc_l, slc_s, slc_t, mty_join, mty_lindex, mty_sindex, mty_split, mty_scount, isTy_list, isTy_tuple, isTy_str, isTy_int, isTy_bi, e_sortR, e_xmin, on_slot, grd_pos, x_ext, out_rt, out_nx, out_ex, out1_rt, out1_nx, out1_ex, ex_nx, List.set_cons_zero, List.set_cons_succ, List.reverse_cons, List.reverse_nil, List.nil_append, List.cons_append, Option.map_some, Option.map_none, Bool.not_true, Bool.not_false, decide_true, decide_false, if_true, if_false, Bool.false_eq_true, Bool.true_and, Bool.and_true, Bool.false_and, Bool.and_false, Bool.true_or, Bool.or_true, Bool.false_or, Bool.or_false, not_true_eq_false, not_false_eq_true, and_true, true_and, PV.lf, PV.isNon, storeV, List.length_cons, List.length_nil, List.length_map, List.isEmpty_cons, List.isEmpty_nil, and_self, Int.natCast_zero, Bool.not_not, Nat.zero_add, Int.cast_ofNat_Int, Int.reduceLT, Int.reduceLE, Int.reduceAdd, Int.reduceSub, Int.reduceMul, Int.reduceNeg, Int.reduceBEq, Int.reduceBNe, Int.reduceDiv, Int.reduceMod, Int.reduceEq, Int.reduceToNat, Nat.reduceAdd, Nat.reduceLT, Nat.reduceLeDiff, reduceIte, Nat.reduceEqDiff, reduceCtorEq, Nat.reduceMul, Nat.reduceSub, Nat.reduceBEq, List.reduceReplicate, Int.reduceGT, Int.reduceGE, pix_0, pix_1, pix_2, pix_3, List.map_cons, List.map_nil, beq_self_eq_true, bne_self_eq_false, e_mv, p1, p2, -cop_nes, cne]
    rfl
  · obtain ⟨k, hk, rfl⟩ := List.mem_map.mp hx
    simp -implicitDefEqProofs only [R.bind_ok', R.bind_ex', R.of_some, R.then_ok, R.then_ex, O.then_nx, O.then_rt, O.then_ex, O.then_ct, O.then_bk, getV0, getVs, tst_ok, tst_ex, R.of_none, e_non, e_bl, e_int, e_str, e_var, e_bv, e_gl, e_bin, e_neg, e_nt, e_an, e_or, e_cmp, e_chn, e_ite, e_lst, e_tup, e_idx, e_sl, e_rev, e_call, e_call0, e_callv, nox_ok, e_b1, e_b2, e_isi, e_m1, e_lrg, es_nil, es_cons, ea_nil, ea_io, ea_non, ea_bl, ea_int, ea_str, ea_var, ea_gl, ea_bin, ea_neg, ea_nt, ea_an, ea_or, ea_cmp, ea_chn, ea_ite, ea_lst, ea_tup, ea_idx, ea_sl, ea_rev, ea_call, ea_b1, ea_b2, ea_isi, ea_m1, ea_lrg, ea_cp, ea_mv, eo_none, eo_some, ec_none, ec_some, ei_of, ei_r1, ei_r2, x_ex, x_set, x_setT, x_par, x_sto, x_sto2, x_app1, x_augS, x_app, x_rvs, revv_l, revB_l, revB_s, x_aug, x_ret, x_retN, x_ite, x_raise, xh_nil, xh_cons, nxo_rt, nxo_nx, x_pass, x_brk, x_cnt, xs_nil, xs_cons, bop_add, bop_sub, bop_mul, bop_fdiv, bop_mod, bop_pow, bop_addl, bop_adds, bop_mull, bop_muls, aop_add, aop_sub, cop_eqi, cop_nei, cop_eqs, cop_nes, cop_eqb, cop_lt, cop_le, cop_gt, cop_ge, cop_lts, cop_les, cop_is, cop_isn, b1_lenl, b1_lent, b1_lens, b1_sum, b1_abs, b1_list, b1_listt, b1_lists, b1_tuple, idx_l, idxL_l, idx_t, idx_s, truth_bl, truth_int, truth_lst, truth_tup, truth_str, truth_non, at_nil, on_nil, items0, items1, items2, items3, set_nm, set_tp, sm_nil, sm_cons, av_nil', av_cons, avg_v, avg_io, pb_nil, pb_io, pb_v, hb_nil, hb_v, hb_io, do_call, hk_l, hk_t, hk_s, hk_i, hk_b, hk_n, fins_nil, fins_cons, b2_min, b2_max, cop_neb, slc_l, slc_s, slc_t, mty_join, mty_lindex, mty_sindex, mty_split, mty_scount, isTy_list, isTy_tuple, isTy_str, isTy_int, isTy_bi, e_sortR, e_xmin, on_slot, grd_pos, x_ext, out_rt, out_nx, out_ex, out1_rt, out1_nx, out1_ex, ex_nx, List.set_cons_zero, List.set_cons_succ, List.reverse_cons, List.reverse_nil, List.nil_append, List.cons_append, Option.map_some, Option.map_none, Bool.not_true, Bool.not_false, decide_true, decide_false, if_true, if_false, Bool.false_eq_true, Bool.true_and, Bool.and_true, Bool.false_and, Bool.and_false, Bool.true_or, Bool.or_true, Bool.false_or, Bool.or_false, not_true_eq_false, not_false_eq_true, and_true, true_and, PV.lf, PV.isNon, storeV, List.length_cons, List.length_nil, List.length_map, List.isEmpty_cons, List.isEmpty_nil, and_self, Int.natCast_zero, Bool.not_not, Nat.zero_add, Int.cast_ofNat_Int, Int.reduceLT, Int.reduceLE, Int.reduceAdd, Int.reduceSub, Int.reduceMul, Int.reduceNeg, Int.reduceBEq, Int.reduceBNe, Int.reduceDiv, Int.reduceMod, Int.reduceEq, Int.reduceToNat, Nat.reduceAdd, Nat.reduceLT, Nat.reduceLeDiff, reduceIte, Nat.reduceEqDiff, reduceCtorEq, Nat.reduceMul, Nat.reduceSub, Nat.reduceBEq, List.reduceReplicate, Int.reduceGT, Int.reduceGE, pix_0, pix_1, pix_2, pix_3, List.map_cons, List.map_nil, beq_self_eq_true, bne_self_eq_false, e_mv]
  · rw [List.filter_map, List.map_id']
    rfl
theorem ap_run {C : Calls} {a b : List Nat} (ha : a.length = 15) (hb : b.length = 15) : runF f_apart C [.str a, .str b] = .ok (.int (hd a b : Nat)) [] := by
  refine (runF0 (vs := [.str a, .str b]) rfl).trans ?_
  show outF0 (exSs C xap [some (.str a), some (.str b), none]) = _
  have hi : evI C (.r1 (.b1 .len (.var 0))) [some (.str a), some (.str b), none] = .ok (rangeI 0 1 15) [some (.str a), some (.str b), none] := ei_r1_ok (n := 15) (by simp -implicitDefEqProofs only [R.bind_ok', R.bind_ex', R.of_some, R.then_ok, R.then_ex, O.then_nx, O.then_rt, O.then_ex, O.then_ct, O.then_bk, getV0, getVs, tst_ok, tst_ex, R.of_none, e_non, e_bl, e_int, e_str, e_var, e_bv, e_gl, e_bin, e_neg, e_nt, e_an, e_or, e_cmp, e_chn, e_ite, e_lst, e_tup, e_idx, e_sl, e_rev, e_call, e_call0, e_callv, nox_ok, e_b1, e_b2, e_isi, e_m1, e_lrg, es_nil, es_cons, ea_nil, ea_io, ea_non, ea_bl, ea_int, ea_str, ea_var, ea_gl, ea_bin, ea_neg, ea_nt, ea_an, ea_or, ea_cmp, ea_chn, ea_ite, ea_lst, ea_tup, ea_idx, ea_sl, ea_rev, ea_call, ea_b1, ea_b2, ea_isi, ea_m1, ea_lrg, ea_cp, ea_mv, eo_none, eo_some, ec_none, ec_some, ei_of, ei_r1, ei_r2, x_ex, x_set, x_setT, x_par, x_sto, x_sto2, x_app1, x_augS, x_app, x_rvs, revv_l, revB_l, revB_s, x_aug, x_ret, x_retN, x_ite, x_raise, xh_nil, xh_cons, nxo_rt, nxo_nx, x_pass, x_brk, x_cnt, xs_nil, xs_cons, bop_add, bop_sub, bop_mul, bop_fdiv, bop_mod, bop_pow, bop_addl, bop_adds, bop_mull, bop_muls, aop_add, aop_sub, cop_eqi, cop_nei, cop_eqs, cop_nes, cop_eqb, cop_lt, cop_le, cop_gt, cop_ge, cop_lts, cop_les, cop_is, cop_isn, b1_lenl, b1_lent, b1_lens, b1_sum, b1_abs, b1_list, b1_listt, b1_lists, b1_tuple, idx_l, idxL_l, idx_t, idx_s, truth_bl, truth_int, truth_lst, truth_tup, truth_str, truth_non, at_nil, on_nil, items0, items1, items2, items3, set_nm, set_tp, sm_nil, sm_cons, av_nil', av_cons, avg_v, avg_io, pb_nil, pb_io, pb_v, hb_nil, hb_v, hb_io, do_call, hk_l, hk_t, hk_s, hk_i, hk_b, hk_n, fins_nil, fins_cons, b2_min, b2_max, cop_neb, slc_l, slc_s, slc_t, mty_join, mty_lindex, mty_sindex, mty_split, mty_scount, isTy_list, isTy_tuple, isTy_str, isTy_int, isTy_bi, e_sortR, e_xmin, on_slot, grd_pos, x_ext, out_rt, out_nx, out_ex, out1_rt, out1_nx, out1_ex, ex_nx, List.set_cons_zero, List.set_cons_succ, List.reverse_cons, List.reverse_nil, List.nil_append, List.cons_append, Option.map_some, Option.map_none, Bool.not_true, Bool.not_false, decide_true, decide_false, if_true, if_false, Bool.false_eq_true, Bool.true_and, Bool.and_true, Bool.false_and, Bool.and_false, Bool.true_or, Bool.or_true, Bool.false_or, Bool.or_false, not_true_eq_false, not_false_eq_true, and_true, true_and, PV.lf, PV.isNon, storeV, List.length_cons, List.length_nil, List.length_map, List.isEmpty_cons, List.isEmpty_nil, and_self, Int.natCast_zero, Bool.not_not, Nat.zero_add, Int.cast_ofNat_Int, Int.reduceLT, Int.reduceLE, Int.reduceAdd, Int.reduceSub, Int.reduceMul, Int.reduceNeg, Int.reduceBEq, Int.reduceBNe, Int.reduceDiv, Int.reduceMod, Int.reduceEq, Int.reduceToNat, Nat.reduceAdd, Nat.reduceLT, Nat.reduceLeDiff, reduceIte, Nat.reduceEqDiff, reduceCtorEq, Nat.reduceMul, Nat.reduceSub, Nat.reduceBEq, List.reduceReplicate, Int.reduceGT, Int.reduceGE, pix_0, pix_1, pix_2, pix_3, List.map_cons, List.map_nil, beq_self_eq_true, bne_self_eq_false, e_mv, ha]) (inR_of (by decide) (by decide))
  have k := cnt_cp (C := C) ha hb hi
  unfold xap
  simp -implicitDefEqProofs only [R.bind_ok', R.bind_ex', R.of_some, R.then_ok, R.then_ex, O.then_nx, O.then_rt, O.then_ex, O.then_ct, O.then_bk, getV0, getVs, tst_ok, tst_ex, R.of_none, e_non, e_bl, e_int, e_str, e_var, e_bv, e_gl, e_bin, e_neg, e_nt, e_an, e_or, e_cmp, e_chn, e_ite, e_lst, e_tup, e_idx, e_sl, e_rev, e_call, e_call0, e_callv, nox_ok, e_b1, e_b2, e_isi, e_m1, e_lrg, es_nil, es_cons, ea_nil, ea_io, ea_non, ea_bl, ea_int, ea_str, ea_var, ea_gl, ea_bin, ea_neg, ea_nt, ea_an, ea_or, ea_cmp, ea_chn, ea_ite, ea_lst, ea_tup, ea_idx, ea_sl, ea_rev, ea_call, ea_b1, ea_b2, ea_isi, ea_m1, ea_lrg, ea_cp, ea_mv, eo_none, eo_some, ec_none, ec_some, ei_of, ei_r1, ei_r2, x_ex, x_set, x_setT, x_par, x_sto, x_sto2, x_app1, x_augS, x_app, x_rvs, revv_l, revB_l, revB_s, x_aug, x_ret, x_retN, x_ite, x_raise, xh_nil, xh_cons, nxo_rt, nxo_nx, x_pass, x_brk, x_cnt, xs_nil, xs_cons, bop_add, bop_sub, bop_mul, bop_fdiv, bop_mod, bop_pow, bop_addl, bop_adds, bop_mull, bop_muls, aop_add, aop_sub, cop_eqi, cop_nei, cop_eqs, cop_nes, cop_eqb, cop_lt, cop_le, cop_gt, cop_ge, cop_lts, cop_les, cop_is, cop_isn, b1_lenl, b1_lent, b1_lens, b1_sum, b1_abs, b1_list, b1_listt, b1_lists, b1_tuple, idx_l, idxL_l, idx_t, idx_s, truth_bl, truth_int, truth_lst, truth_tup, truth_str, truth_non, at_nil, on_nil, items0, items1, items2, items3, set_nm, set_tp, sm_nil, sm_cons, av_nil', av_cons, avg_v, avg_io, pb_nil, pb_io, pb_v, hb_nil, hb_v, hb_io, do_call, hk_l, hk_t, hk_s, hk_i, hk_b, hk_n, fins_nil, fins_cons, b2_min, b2_max, cop_neb, slc_l, slc_s, slc_t, mty_join, mty_lindex, mty_sindex, mty_split, mty_scount, isTy_list, isTy_tuple, isTy_str, isTy_int, isTy_bi, e_sortR, e_xmin, on_slot, grd_pos, x_ext, out_rt, out_nx, out_ex, out1_rt, out1_nx, out1_ex, ex_nx, List.set_cons_zero, List.set_cons_succ, List.reverse_cons, List.reverse_nil, List.nil_append, List.cons_append, Option.map_some, Option.map_none, Bool.not_true, Bool.not_false, decide_true, decide_false, if_true, if_false, Bool.false_eq_true, Bool.true_and, Bool.and_true, Bool.false_and, Bool.and_false, Bool.true_or, Bool.or_true, Bool.false_or, Bool.or_false, not_true_eq_false, not_false_eq_true, and_true, true_and, PV.lf, PV.isNon, storeV, List.length_cons, List.length_nil, List.length_map, List.isEmpty_cons, List.isEmpty_nil, and_self, Int.natCast_zero, Bool.not_not, Nat.zero_add, Int.cast_ofNat_Int, Int.reduceLT, Int.reduceLE, Int.reduceAdd, Int.reduceSub, Int.reduceMul, Int.reduceNeg, Int.reduceBEq, Int.reduceBNe, Int.reduceDiv, Int.reduceMod, Int.reduceEq, Int.reduceToNat, Nat.reduceAdd, Nat.reduceLT, Nat.reduceLeDiff, reduceIte, Nat.reduceEqDiff, reduceCtorEq, Nat.reduceMul, Nat.reduceSub, Nat.reduceBEq, List.reduceReplicate, Int.reduceGT, Int.reduceGE, pix_0, pix_1, pix_2, pix_3, List.map_cons, List.map_nil, beq_self_eq_true, bne_self_eq_false, e_mv, xap0, k, -b1_lenl, CNT_len]
theorem la_run {C : Calls} {a b : List Nat} (ha : a.length = 15) (hb : b.length = 15) : runF f__law_apart C [.str a, .str b] = .ok (.int (hd a b : Nat)) [] := by
  refine (runF0 (vs := [.str a, .str b]) rfl).trans ?_
  show outF0 (exSs C xla [some (.str a), some (.str b), none]) = _
  have hi : evI C (.r1 (.int 15)) [some (.str a), some (.str b), none] = .ok (rangeI 0 1 15) [some (.str a), some (.str b), none] := ei_r1_ok (n := 15) (by simp -implicitDefEqProofs only [R.bind_ok', R.bind_ex', R.of_some, R.then_ok, R.then_ex, O.then_nx, O.then_rt, O.then_ex, O.then_ct, O.then_bk, getV0, getVs, tst_ok, tst_ex, R.of_none, e_non, e_bl, e_int, e_str, e_var, e_bv, e_gl, e_bin, e_neg, e_nt, e_an, e_or, e_cmp, e_chn, e_ite, e_lst, e_tup, e_idx, e_sl, e_rev, e_call, e_call0, e_callv, nox_ok, e_b1, e_b2, e_isi, e_m1, e_lrg, es_nil, es_cons, ea_nil, ea_io, ea_non, ea_bl, ea_int, ea_str, ea_var, ea_gl, ea_bin, ea_neg, ea_nt, ea_an, ea_or, ea_cmp, ea_chn, ea_ite, ea_lst, ea_tup, ea_idx, ea_sl, ea_rev, ea_call, ea_b1, ea_b2, ea_isi, ea_m1, ea_lrg, ea_cp, ea_mv, eo_none, eo_some, ec_none, ec_some, ei_of, ei_r1, ei_r2, x_ex, x_set, x_setT, x_par, x_sto, x_sto2, x_app1, x_augS, x_app, x_rvs, revv_l, revB_l, revB_s, x_aug, x_ret, x_retN, x_ite, x_raise, xh_nil, xh_cons, nxo_rt, nxo_nx, x_pass, x_brk, x_cnt, xs_nil, xs_cons, bop_add, bop_sub, bop_mul, bop_fdiv, bop_mod, bop_pow, bop_addl, bop_adds, bop_mull, bop_muls, aop_add, aop_sub, cop_eqi, cop_nei, cop_eqs, cop_nes, cop_eqb, cop_lt, cop_le, cop_gt, cop_ge, cop_lts, cop_les, cop_is, cop_isn, b1_lenl, b1_lent, b1_lens, b1_sum, b1_abs, b1_list, b1_listt, b1_lists, b1_tuple, idx_l, idxL_l, idx_t, idx_s, truth_bl, truth_int, truth_lst, truth_tup, truth_str, truth_non, at_nil, on_nil, items0, items1, items2, items3, set_nm, set_tp, sm_nil, sm_cons, av_nil', av_cons, avg_v, avg_io, pb_nil, pb_io, pb_v, hb_nil, hb_v, hb_io, do_call, hk_l, hk_t, hk_s, hk_i, hk_b, hk_n, fins_nil, fins_cons, b2_min, b2_max, cop_neb, slc_l, slc_s, slc_t, mty_join, mty_lindex, mty_sindex, mty_split, mty_scount, isTy_list, isTy_tuple, isTy_str, isTy_int, isTy_bi, e_sortR, e_xmin, on_slot, grd_pos, x_ext, out_rt, out_nx, out_ex, out1_rt, out1_nx, out1_ex, ex_nx, List.set_cons_zero, List.set_cons_succ, List.reverse_cons, List.reverse_nil, List.nil_append, List.cons_append, Option.map_some, Option.map_none, Bool.not_true, Bool.not_false, decide_true, decide_false, if_true, if_false, Bool.false_eq_true, Bool.true_and, Bool.and_true, Bool.false_and, Bool.and_false, Bool.true_or, Bool.or_true, Bool.false_or, Bool.or_false, not_true_eq_false, not_false_eq_true, and_true, true_and, PV.lf, PV.isNon, storeV, List.length_cons, List.length_nil, List.length_map, List.isEmpty_cons, List.isEmpty_nil, and_self, Int.natCast_zero, Bool.not_not, Nat.zero_add, Int.cast_ofNat_Int, Int.reduceLT, Int.reduceLE, Int.reduceAdd, Int.reduceSub, Int.reduceMul, Int.reduceNeg, Int.reduceBEq, Int.reduceBNe, Int.reduceDiv, Int.reduceMod, Int.reduceEq, Int.reduceToNat, Nat.reduceAdd, Nat.reduceLT, Nat.reduceLeDiff, reduceIte, Nat.reduceEqDiff, reduceCtorEq, Nat.reduceMul, Nat.reduceSub, Nat.reduceBEq, List.reduceReplicate, Int.reduceGT, Int.reduceGE, pix_0, pix_1, pix_2, pix_3, List.map_cons, List.map_nil, beq_self_eq_true, bne_self_eq_false, e_mv]) (inR_of (by decide) (by decide))
  have k := cnt_cp (C := C) ha hb hi
  unfold xla
  simp -implicitDefEqProofs only [R.bind_ok', R.bind_ex', R.of_some, R.then_ok, R.then_ex, O.then_nx, O.then_rt, O.then_ex, O.then_ct, O.then_bk, getV0, getVs, tst_ok, tst_ex, R.of_none, e_non, e_bl, e_int, e_str, e_var, e_bv, e_gl, e_bin, e_neg, e_nt, e_an, e_or, e_cmp, e_chn, e_ite, e_lst, e_tup, e_idx, e_sl, e_rev, e_call, e_call0, e_callv, nox_ok, e_b1, e_b2, e_isi, e_m1, e_lrg, es_nil, es_cons, ea_nil, ea_io, ea_non, ea_bl, ea_int, ea_str, ea_var, ea_gl, ea_bin, ea_neg, ea_nt, ea_an, ea_or, ea_cmp, ea_chn, ea_ite, ea_lst, ea_tup, ea_idx, ea_sl, ea_rev, ea_call, ea_b1, ea_b2, ea_isi, ea_m1, ea_lrg, ea_cp, ea_mv, eo_none, eo_some, ec_none, ec_some, ei_of, ei_r1, ei_r2, x_ex, x_set, x_setT, x_par, x_sto, x_sto2, x_app1, x_augS, x_app, x_rvs, revv_l, revB_l, revB_s, x_aug, x_ret, x_retN, x_ite, x_raise, xh_nil, xh_cons, nxo_rt, nxo_nx, x_pass, x_brk, x_cnt, xs_nil, xs_cons, bop_add, bop_sub, bop_mul, bop_fdiv, bop_mod, bop_pow, bop_addl, bop_adds, bop_mull, bop_muls, aop_add, aop_sub, cop_eqi, cop_nei, cop_eqs, cop_nes, cop_eqb, cop_lt, cop_le, cop_gt, cop_ge, cop_lts, cop_les, cop_is, cop_isn, b1_lenl, b1_lent, b1_lens, b1_sum, b1_abs, b1_list, b1_listt, b1_lists, b1_tuple, idx_l, idxL_l, idx_t, idx_s, truth_bl, truth_int, truth_lst, truth_tup, truth_str, truth_non, at_nil, on_nil, items0, items1, items2, items3, set_nm, set_tp, sm_nil, sm_cons, av_nil', av_cons, avg_v, avg_io, pb_nil, pb_io, pb_v, hb_nil, hb_v, hb_io, do_call, hk_l, hk_t, hk_s, hk_i, hk_b, hk_n, fins_nil, fins_cons, b2_min, b2_max, cop_neb, slc_l, slc_s, slc_t, mty_join, mty_lindex, mty_sindex, mty_split, mty_scount, isTy_list, isTy_tuple, isTy_str, isTy_int, isTy_bi, e_sortR, e_xmin, on_slot, grd_pos, x_ext, out_rt, out_nx, out_ex, out1_rt, out1_nx, out1_ex, ex_nx, List.set_cons_zero, List.set_cons_succ, List.reverse_cons, List.reverse_nil, List.nil_append, List.cons_append, Option.map_some, Option.map_none, Bool.not_true, Bool.not_false, decide_true, decide_false, if_true, if_false, Bool.false_eq_true, Bool.true_and, Bool.and_true, Bool.false_and, Bool.and_false, Bool.true_or, Bool.or_true, Bool.false_or, Bool.or_false, not_true_eq_false, not_false_eq_true, and_true, true_and, PV.lf, PV.isNon, storeV, List.length_cons, List.length_nil, List.length_map, List.isEmpty_cons, List.isEmpty_nil, and_self, Int.natCast_zero, Bool.not_not, Nat.zero_add, Int.cast_ofNat_Int, Int.reduceLT, Int.reduceLE, Int.reduceAdd, Int.reduceSub, Int.reduceMul, Int.reduceNeg, Int.reduceBEq, Int.reduceBNe, Int.reduceDiv, Int.reduceMod, Int.reduceEq, Int.reduceToNat, Nat.reduceAdd, Nat.reduceLT, Nat.reduceLeDiff, reduceIte, Nat.reduceEqDiff, reduceCtorEq, Nat.reduceMul, Nat.reduceSub, Nat.reduceBEq, List.reduceReplicate, Int.reduceGT, Int.reduceGE, pix_0, pix_1, pix_2, pix_3, List.map_cons, List.map_nil, beq_self_eq_true, bne_self_eq_false, e_mv, xla0, k, -b1_lenl, CNT_len]
/-! ### sorted -/
def tri (d : Nat → Nat) (i : Nat) : PV := .tup [.int (d i : Nat), .str [lvl i], .int (i % 8 : Nat)]
def rk (i : Nat) : Nat := 8 * ((i / 8 + 1) % 4) + i % 8
theorem rk_lt (i : Nat) : rk i < 32 := by unfold rk; omega
theorem rest_le : ((List.range 32).all fun i => (List.range 32).all fun j => (!PV.ltvs [.str [lvl j], .int (j % 8 : Nat)] [.str [lvl i], .int (i % 8 : Nat)]) == decide (rk i ≤ rk j)) = true := by decide +kernel
def leK (d : Nat → Nat) (i j : Nat) : Bool := decide (d i * 32 + rk i ≤ d j * 32 + rk j)
theorem le_tri (d : Nat → Nat) {i j : Nat} (hi : i < 32) (hj : j < 32) : leK d i j = leV (tri d i) (tri d j) := by
  have hr := List.all_eq_true.mp (List.all_eq_true.mp rest_le i (List.mem_range.mpr hi)) j (List.mem_range.mpr hj)
  have hr := beq_iff_eq.mp hr
  have r1 := rk_lt i
  have r2 := rk_lt j
  show leK d i j = !PV.ltvs [.int (d j : Nat), .str [lvl j], .int (j % 8 : Nat)] [.int (d i : Nat), .str [lvl i], .int (i % 8 : Nat)]
  rw [PV.ltvs]
  unfold leK
  by_cases q : d j = d i
  · rw [if_pos (show PV.eqv (.int (d j : Nat)) (.int (d i : Nat)) = true by show decide (_ = _) = true; simp [q]), hr, q]
    exact decide_eq_decide.mpr (by omega)
  · rw [if_neg (show ¬ PV.eqv (.int (d j : Nat)) (.int (d i : Nat)) = true by show ¬ decide (_ = _) = true; simp; omega)]
    show _ = !decide ((d j : Int) < (d i : Int))
    by_cases z : d j < d i
    · rw [decide_eq_true (show (d j : Int) < (d i : Int) by omega), decide_eq_false (by omega)]
      rfl
    · rw [decide_eq_false (show ¬ (d j : Int) < (d i : Int) by omega), decide_eq_true (by omega)]
      rfl
theorem srt32 (d : Nat → Nat) : ∃ a b r, srtV (.lst ((List.range 32).map (tri d))) = some (.lst ((a :: b :: r).map (tri d))) ∧ (a :: b :: r).Perm (List.range 32) ∧ (∀ x, x ∈ b :: r → d a ≤ d x) ∧ (∀ x, x ∈ r → d b ≤ d x) := by
  have hm := List.map_mergeSort (r := leK d) (s := leV) (f := tri d) (l := List.range 32) fun a ha b hb => le_tri d (List.mem_range.mp ha) (List.mem_range.mp hb)
  have hp := List.mergeSort_perm (List.range 32) (leK d)
  have hs := List.pairwise_mergeSort (le := leK d) (fun a b c h g => by
    unfold leK at *
    simp only [decide_eq_true_eq] at *
    omega) (fun a b => by
    unfold leK
    simp only [Bool.or_eq_true, decide_eq_true_eq]
    omega) (List.range 32)
  have hsr : srtV (.lst ((List.range 32).map (tri d))) = some (.lst (((List.range 32).map (tri d)).mergeSort leV)) := by
    show grd _ _ = _
    have hv : ∀ v, v ∈ (List.range 32).map (tri d) → ∃ i, v = tri d i := fun v hv => by
      obtain ⟨i, _, rfl⟩ := List.mem_map.mp hv
      exact ⟨i, rfl⟩
    refine grd_pos ⟨?_, ?_, ?_⟩
    · unfold alkAll
      rw [List.all_eq_true]
      intro v h1
      obtain ⟨i, rfl⟩ := hv v h1
      rw [show PV.isNon (tri d i) = false from rfl, Bool.not_false, Bool.true_and, List.all_eq_true]
      intro w h2
      obtain ⟨j, rfl⟩ := hv w h2
      rfl
    · refine Nat.le_trans (deps_le (n := 1) fun v h1 => ?_) (by decide)
      obtain ⟨i, rfl⟩ := hv v h1
      exact Nat.le_refl _
    · rw [Bool.or_eq_true]
      left
      rw [List.all_eq_true]
      intro v h1
      obtain ⟨i, rfl⟩ := hv v h1
      rfl
  rw [← hm] at hsr
  generalize (List.range 32).mergeSort (leK d) = s at hsr hp hs
  have hl := hp.length_eq
  rw [List.length_range] at hl
  match s, hl with
  | a :: b :: r, _ =>
    have le_of : ∀ {x y : Nat}, leK d x y = true → d x ≤ d y := fun {x y} h => by
      unfold leK at h
      have h := of_decide_eq_true h
      have r1 := rk_lt x
      have r2 := rk_lt y
      omega
    obtain ⟨h1, h2⟩ := List.pairwise_cons.mp hs
    exact ⟨a, b, r, hsr, hp, fun x hx => le_of (h1 x hx), fun x hx => le_of ((List.pairwise_cons.mp h2).1 x hx)⟩
end My

namespace My
open Ev Ev.Pre
theorem fl_nx {f : PV → Env → O} {x : PV} {xs : List PV} {env e : Env} {o : O} (h : f x env = .nx e) (h2 : forL f xs e = o) : forL f (x :: xs) env = o := by
  rw [forL, h]
  exact h2
def RD : List Nat := [114, 101, 97, 100]
def V4 (i m : Nat) : PV := .tup [.str RD, .str [lvl i], .int (i % 8 : Nat), .int (m : Nat)]
def NV (d : Nat → Nat) (a b : Nat) : PV := if 3 < d a ∨ d a = d b then .non else V4 a (d a)
structure Srt (d : Nat → Nat) (a b : Nat) (r : List Nat) : Prop where
  s : srtV (.lst ((List.range 32).map (tri d))) = some (.lst ((a :: b :: r).map (tri d)))
  p : (a :: b :: r).Perm (List.range 32)
  l1 : ∀ x, x ∈ b :: r → d a ≤ d x
  l2 : ∀ x, x ∈ r → d b ≤ d x
def dL (d : Nat → Nat) : List Int := (List.range 32).map fun i => ((d i : Nat) : Int)
theorem dL_min {d : Nat → Nat} {a b : Nat} {r : List Nat} (S : Srt d a b r) : mnL (dL d) = (d a : Nat) := by
  have ne : dL d ≠ [] := by unfold dL; simp
  have h1 : mnL (dL d) ≤ (d a : Nat) := mnL_le (by
    unfold dL
    exact List.mem_map.mpr ⟨a, S.p.mem_iff.mp (by simp), rfl⟩)
  obtain ⟨x, hx, e⟩ := List.mem_map.mp (show mnL (dL d) ∈ (List.range 32).map fun i => ((d i : Nat) : Int) from mnL_mem ne)
  rcases List.mem_cons.mp (S.p.mem_iff.mpr hx) with rfl | h
  · exact e.symm
  · have := S.l1 x h
    omega
def NR (d : Nat → Nat) (a : Nat) : List Nat := (List.range 32).filter fun i => decide (d i = d a)
theorem NR_eq {d : Nat → Nat} {a b : Nat} {r : List Nat} (S : Srt d a b r) (h : d a = d b) : (NR d a).length ≠ 1 := by
  have e := (S.p.filter fun i => decide (d i = d a)).length_eq
  rw [List.filter_cons, if_pos (by simp), List.filter_cons, if_pos (by simp [h]), List.length_cons, List.length_cons] at e
  unfold NR
  omega
theorem NR_ne {d : Nat → Nat} {a b : Nat} {r : List Nat} (S : Srt d a b r) (h : d a ≠ d b) : NR d a = [a] := by
  have e := S.p.filter fun i => decide (d i = d a)
  have hb := S.l1 b (by simp)
  rw [List.filter_cons, if_pos (by simp), List.filter_cons, if_neg (by simp; omega), List.filter_eq_nil_iff.mpr (fun x hx => by
    have := S.l2 x hx
    simp
    omega)] at e
  exact (List.perm_singleton.mp e.symm)
theorem ne_turn {C : Calls} {bits : List Nat} {d : Nat → Nat} (h11 : ∀ i, i < 32 → C 11 [.str bits, .str (wd i)] = .ok (.int (d i : Nat)) []) (h9 : ∀ j m, j < 4 → m < 8 → C 9 [.str [LV.getD j 0], .int (m : Nat)] = .ok (.str (wd (8 * j + m))) []) {j : Nat} (hj : j < 4) (o2 : Option PV) :
    bodyF C (.nm 2) xne1b (.str [LV.getD j 0]) [some (.str bits), some (.lst ((List.range (8 * j)).map (tri d))), o2, none, none, none, none] = .nx [some (.str bits), some (.lst ((List.range (8 * (j + 1))).map (tri d))), some (.str [LV.getD j 0]), none, none, none, none] := by
  have e : evE C (.cp 0 [3] (.nm 3) (.r1 (.int 8)) none (.tup [(.call 11 [(.var 0), (.call 9 [(.var 2), (.var 3)])]), (.var 2), (.var 3)])) [some (.str bits), some (.lst ((List.range (8 * j)).map (tri d))), some (.str [LV.getD j 0]), none, none, none, none] = .ok (.lst ((List.range 8).map fun m => tri d (8 * j + m))) [some (.str bits), some (.lst ((List.range (8 * j)).map (tri d))), some (.str [LV.getD j 0]), none, none, none, none] := by
    have hi : evI C (.r1 (.int 8)) [some (.str bits), some (.lst ((List.range (8 * j)).map (tri d))), some (.str [LV.getD j 0]), none, none, none, none] = .ok ((List.range 8).map fun m => PV.int (m : Nat)) [some (.str bits), some (.lst ((List.range (8 * j)).map (tri d))), some (.str [LV.getD j 0]), none, none, none, none] := by
      rw [← rangeI_eq0]
      exact ei_r1_ok (n := 8) (by simp -implicitDefEqProofs only [R.bind_ok', R.bind_ex', R.of_some, R.then_ok, R.then_ex, O.then_nx, O.then_rt, O.then_ex, O.then_ct, O.then_bk, getV0, getVs, tst_ok, tst_ex, R.of_none, e_non, e_bl, e_int, e_str, e_var, e_bv, e_gl, e_bin, e_neg, e_nt, e_an, e_or, e_cmp, e_chn, e_ite, e_lst, e_tup, e_idx, e_sl, e_rev, e_call, e_call0, e_callv, nox_ok, e_b1, e_b2, e_isi, e_m1, e_lrg, es_nil, es_cons, ea_nil, ea_io, ea_non, ea_bl, ea_int, ea_str, ea_var, ea_gl, ea_bin, ea_neg, ea_nt, ea_an, ea_or, ea_cmp, ea_chn, ea_ite, ea_lst, ea_tup, ea_idx, ea_sl, ea_rev, ea_call, ea_b1, ea_b2, ea_isi, ea_m1, ea_lrg, ea_cp, ea_mv, eo_none, eo_some, ec_none, ec_some, ei_of, ei_r1, ei_r2, x_ex, x_set, x_setT, x_par, x_sto, x_sto2, x_app1, x_augS, x_app, x_rvs, revv_l, revB_l, revB_s, x_aug, x_ret, x_retN, x_ite, x_raise, xh_nil, xh_cons, nxo_rt, nxo_nx, x_pass, x_brk, x_cnt, xs_nil, xs_cons, bop_add, bop_sub, bop_mul, bop_fdiv, bop_mod, bop_pow, bop_addl, bop_adds, bop_mull, bop_muls, aop_add, aop_sub, cop_eqi, cop_nei, cop_eqs, cop_nes, cop_eqb, cop_lt, cop_le, cop_gt, cop_ge, cop_lts, cop_les, cop_is, cop_isn, b1_lenl, b1_lent, b1_lens, b1_sum, b1_abs, b1_list, b1_listt, b1_lists, b1_tuple, idx_l, idxL_l, idx_t, idx_s, truth_bl, truth_int, truth_lst, truth_tup, truth_str, truth_non, at_nil, on_nil, items0, items1, items2, items3, set_nm, set_tp, sm_nil, sm_cons, av_nil', av_cons, avg_v, avg_io, pb_nil, pb_io, pb_v, hb_nil, hb_v, hb_io, do_call, hk_l, hk_t, hk_s, hk_i, hk_b, hk_n, fins_nil, fins_cons, b2_min, b2_max, cop_neb, slc_l, slc_s, slc_t, mty_join, mty_lindex, mty_sindex, mty_split, mty_scount, isTy_list, isTy_tuple, isTy_str, isTy_int, isTy_bi, e_sortR, e_xmin, on_slot, grd_pos, x_ext, out_rt, out_nx, out_ex, out1_rt, out1_nx, out1_ex, ex_nx, List.set_cons_zero, List.set_cons_succ, List.reverse_cons, List.reverse_nil, List.nil_append, List.cons_append, Option.map_some, Option.map_none, Bool.not_true, Bool.not_false, decide_true, decide_false, if_true, if_false, Bool.false_eq_true, Bool.true_and, Bool.and_true, Bool.false_and, Bool.and_false, Bool.true_or, Bool.or_true, Bool.false_or, Bool.or_false, not_true_eq_false, not_false_eq_true, and_true, true_and, PV.lf, PV.isNon, storeV, List.length_cons, List.length_nil, List.length_map, List.isEmpty_cons, List.isEmpty_nil, and_self, Int.natCast_zero, Bool.not_not, Nat.zero_add, Int.cast_ofNat_Int, Int.reduceLT, Int.reduceLE, Int.reduceAdd, Int.reduceSub, Int.reduceMul, Int.reduceNeg, Int.reduceBEq, Int.reduceBNe, Int.reduceDiv, Int.reduceMod, Int.reduceEq, Int.reduceToNat, Nat.reduceAdd, Nat.reduceLT, Nat.reduceLeDiff, reduceIte, Nat.reduceEqDiff, reduceCtorEq, Nat.reduceMul, Nat.reduceSub, Nat.reduceBEq, List.reduceReplicate, Int.reduceGT, Int.reduceGE, pix_0, pix_1, pix_2, pix_3, List.map_cons, List.map_nil, beq_self_eq_true, bne_self_eq_false, e_mv]) (inR_of (by decide) (by decide))
    refine (cp_map (xs := (List.range 8).map fun m => PV.int (m : Nat)) (env1 := [some (.str bits), some (.lst ((List.range (8 * j)).map (tri d))), some (.str [LV.getD j 0]), none, none, none, none]) (fun x => match x with
      | .int c => tri d (8 * j + c.toNat)
      | _ => .non) (by simp) hi (fun x hx => ?_) (by simp; decide)).trans ?_
    · obtain ⟨m, hm, rfl⟩ := List.mem_map.mp hx
      have hm := List.mem_range.mp hm
      have c9 := h9 j m hj hm
      have c11 := h11 (8 * j + m) (by omega)
      have hl : lvl (8 * j + m) = LV.getD j 0 := by
        unfold lvl
        rw [show (8 * j + m) / 8 = j by omega]
      have h8 : (8 * j + m) % 8 = m := by omega
      show _ = R.ok (tri d (8 * j + m)) _
      unfold tri
      rw [hl, h8]
      generalize LV.getD j 0 = L at *
      simp -implicitDefEqProofs only [R.bind_ok', R.bind_ex', R.of_some, R.then_ok, R.then_ex, O.then_nx, O.then_rt, O.then_ex, O.then_ct, O.then_bk, getV0, getVs, tst_ok, tst_ex, R.of_none, e_non, e_bl, e_int, e_str, e_var, e_bv, e_gl, e_bin, e_neg, e_nt, e_an, e_or, e_cmp, e_chn, e_ite, e_lst, e_tup, e_idx, e_sl, e_rev, e_call, e_call0, e_callv, nox_ok, e_b1, e_b2, e_isi, e_m1, e_lrg, es_nil, es_cons, ea_nil, ea_io, ea_non, ea_bl, ea_int, ea_str, ea_var, ea_gl, ea_bin, ea_neg, ea_nt, ea_an, ea_or, ea_cmp, ea_chn, ea_ite, ea_lst, ea_tup, ea_idx, ea_sl, ea_rev, ea_call, ea_b1, ea_b2, ea_isi, ea_m1, ea_lrg, ea_cp, ea_mv, eo_none, eo_some, ec_none, ec_some, ei_of, ei_r1, ei_r2, x_ex, x_set, x_setT, x_par, x_sto, x_sto2, x_app1, x_augS, x_app, x_rvs, revv_l, revB_l, revB_s, x_aug, x_ret, x_retN, x_ite, x_raise, xh_nil, xh_cons, nxo_rt, nxo_nx, x_pass, x_brk, x_cnt, xs_nil, xs_cons, bop_add, bop_sub, bop_mul, bop_fdiv, bop_mod, bop_pow, bop_addl, bop_adds, bop_mull, bop_muls, aop_add, aop_sub, cop_eqi, cop_nei, cop_eqs, cop_nes, cop_eqb, cop_lt, cop_le, cop_gt, cop_ge, cop_lts, cop_les, cop_is, cop_isn, b1_lenl, b1_lent, b1_lens, b1_sum, b1_abs, b1_list, b1_listt, b1_lists, b1_tuple, idx_l, idxL_l, idx_t, idx_s, truth_bl, truth_int, truth_lst, truth_tup, truth_str, truth_non, at_nil, on_nil, items0, items1, items2, items3, set_nm, set_tp, sm_nil, sm_cons, av_nil', av_cons, avg_v, avg_io, pb_nil, pb_io, pb_v, hb_nil, hb_v, hb_io, do_call, hk_l, hk_t, hk_s, hk_i, hk_b, hk_n, fins_nil, fins_cons, b2_min, b2_max, cop_neb, slc_l, slc_s, slc_t, mty_join, mty_lindex, mty_sindex, mty_split, mty_scount, isTy_list, isTy_tuple, isTy_str, isTy_int, isTy_bi, e_sortR, e_xmin, on_slot, grd_pos, x_ext, out_rt, out_nx, out_ex, out1_rt, out1_nx, out1_ex, ex_nx, List.set_cons_zero, List.set_cons_succ, List.reverse_cons, List.reverse_nil, List.nil_append, List.cons_append, Option.map_some, Option.map_none, Bool.not_true, Bool.not_false, decide_true, decide_false, if_true, if_false, Bool.false_eq_true, Bool.true_and, Bool.and_true, Bool.false_and, Bool.and_false, Bool.true_or, Bool.or_true, Bool.false_or, Bool.or_false, not_true_eq_false, not_false_eq_true, and_true, true_and, PV.lf, PV.isNon, storeV, List.length_cons, List.length_nil, List.length_map, List.isEmpty_cons, List.isEmpty_nil, and_self, Int.natCast_zero, Bool.not_not, Nat.zero_add, Int.cast_ofNat_Int, Int.reduceLT, Int.reduceLE, Int.reduceAdd, Int.reduceSub, Int.reduceMul, Int.reduceNeg, Int.reduceBEq, Int.reduceBNe, Int.reduceDiv, Int.reduceMod, Int.reduceEq, Int.reduceToNat, Nat.reduceAdd, Nat.reduceLT, Nat.reduceLeDiff, reduceIte, Nat.reduceEqDiff, reduceCtorEq, Nat.reduceMul, Nat.reduceSub, Nat.reduceBEq, List.reduceReplicate, Int.reduceGT, Int.reduceGE, pix_0, pix_1, pix_2, pix_3, List.map_cons, List.map_nil, beq_self_eq_true, bne_self_eq_false, e_mv, c9, c11]
    · rw [List.map_map]
      rfl
  have k := set_addl (i := 1) (x := (List.range (8 * j)).map (tri d)) e rfl (by simp; show _ ≤ 16777216; omega)
  unfold bodyF xne1b
  have k : exS C xne1b0 [some (.str bits), some (.lst ((List.range (8 * j)).map (tri d))), some (.str [LV.getD j 0]), none, none, none, none] = .nx [some (.str bits), some (.lst ((List.range (8 * j)).map (tri d) ++ (List.range 8).map fun m => tri d (8 * j + m))), some (.str [LV.getD j 0]), none, none, none, none] := k
  show exSs C [xne1b0] [some (.str bits), some (.lst ((List.range (8 * j)).map (tri d))), some (.str [LV.getD j 0]), none, none, none, none] = _
  rw [xs_cons, k, O.then_nx, xs_nil, show 8 * (j + 1) = 8 * j + 8 by omega, List.range_add, List.map_append, List.map_map]
  rfl
theorem near_run {C : Calls} {bits : List Nat} {d : Nat → Nat} (h11 : ∀ i, i < 32 → C 11 [.str bits, .str (wd i)] = .ok (.int (d i : Nat)) []) (h9 : ∀ j m, j < 4 → m < 8 → C 9 [.str [LV.getD j 0], .int (m : Nat)] = .ok (.str (wd (8 * j + m))) []) {a b : Nat} {r : List Nat} (S : Srt d a b r) :
    runF f_nearest_format C [.str bits] = .ok (NV d a b) [] := by
  refine (runF0 (vs := [.str bits]) rfl).trans ?_
  show outF0 (exSs C xne [some (.str bits), none, none, none, none, none, none]) = _
  have s0 : exS C xne0 [some (.str bits), none, none, none, none, none, none] = .nx [some (.str bits), some (.lst ((List.range (8 * 0)).map (tri d))), none, none, none, none, none] := by
    simp -implicitDefEqProofs only [R.bind_ok', R.bind_ex', R.of_some, R.then_ok, R.then_ex, O.then_nx, O.then_rt, O.then_ex, O.then_ct, O.then_bk, getV0, getVs, tst_ok, tst_ex, R.of_none, e_non, e_bl, e_int, e_str, e_var, e_bv, e_gl, e_bin, e_neg, e_nt, e_an, e_or, e_cmp, e_chn, e_ite, e_lst, e_tup, e_idx, e_sl, e_rev, e_call, e_call0, e_callv, nox_ok, e_b1, e_b2, e_isi, e_m1, e_lrg, es_nil, es_cons, ea_nil, ea_io, ea_non, ea_bl, ea_int, ea_str, ea_var, ea_gl, ea_bin, ea_neg, ea_nt, ea_an, ea_or, ea_cmp, ea_chn, ea_ite, ea_lst, ea_tup, ea_idx, ea_sl, ea_rev, ea_call, ea_b1, ea_b2, ea_isi, ea_m1, ea_lrg, ea_cp, ea_mv, eo_none, eo_some, ec_none, ec_some, ei_of, ei_r1, ei_r2, x_ex, x_set, x_setT, x_par, x_sto, x_sto2, x_app1, x_augS, x_app, x_rvs, revv_l, revB_l, revB_s, x_aug, x_ret, x_retN, x_ite, x_raise, xh_nil, xh_cons, nxo_rt, nxo_nx, x_pass, x_brk, x_cnt, xs_nil, xs_cons, bop_add, bop_sub, bop_mul, bop_fdiv, bop_mod, bop_pow, bop_addl, bop_adds, bop_mull, bop_muls, aop_add, aop_sub, cop_eqi, cop_nei, cop_eqs, cop_nes, cop_eqb, cop_lt, cop_le, cop_gt, cop_ge, cop_lts, cop_les, cop_is, cop_isn, b1_lenl, b1_lent, b1_lens, b1_sum, b1_abs, b1_list, b1_listt, b1_lists, b1_tuple, idx_l, idxL_l, idx_t, idx_s, truth_bl, truth_int, truth_lst, truth_tup, truth_str, truth_non, at_nil, on_nil, items0, items1, items2, items3, set_nm, set_tp, sm_nil, sm_cons, av_nil', av_cons, avg_v, avg_io, pb_nil, pb_io, pb_v, hb_nil, hb_v, hb_io, do_call, hk_l, hk_t, hk_s, hk_i, hk_b, hk_n, fins_nil, fins_cons, b2_min, b2_max, cop_neb, slc_l, slc_s, slc_t, mty_join, mty_lindex, mty_sindex, mty_split, mty_scount, isTy_list, isTy_tuple, isTy_str, isTy_int, isTy_bi, e_sortR, e_xmin, on_slot, grd_pos, x_ext, out_rt, out_nx, out_ex, out1_rt, out1_nx, out1_ex, ex_nx, List.set_cons_zero, List.set_cons_succ, List.reverse_cons, List.reverse_nil, List.nil_append, List.cons_append, Option.map_some, Option.map_none, Bool.not_true, Bool.not_false, decide_true, decide_false, if_true, if_false, Bool.false_eq_true, Bool.true_and, Bool.and_true, Bool.false_and, Bool.and_false, Bool.true_or, Bool.or_true, Bool.false_or, Bool.or_false, not_true_eq_false, not_false_eq_true, and_true, true_and, PV.lf, PV.isNon, storeV, List.length_cons, List.length_nil, List.length_map, List.isEmpty_cons, List.isEmpty_nil, and_self, Int.natCast_zero, Bool.not_not, Nat.zero_add, Int.cast_ofNat_Int, Int.reduceLT, Int.reduceLE, Int.reduceAdd, Int.reduceSub, Int.reduceMul, Int.reduceNeg, Int.reduceBEq, Int.reduceBNe, Int.reduceDiv, Int.reduceMod, Int.reduceEq, Int.reduceToNat, Nat.reduceAdd, Nat.reduceLT, Nat.reduceLeDiff, reduceIte, Nat.reduceEqDiff, reduceCtorEq, Nat.reduceMul, Nat.reduceSub, Nat.reduceBEq, List.reduceReplicate, Int.reduceGT, Int.reduceGE, pix_0, pix_1, pix_2, pix_3, List.map_cons, List.map_nil, beq_self_eq_true, bne_self_eq_false, e_mv, xne0]
    rfl
  have t0 := ne_turn (C := C) h11 h9 (j := 0) (by decide) none
  have t1 := ne_turn (C := C) h11 h9 (j := 1) (by decide) (some (.str [76]))
  have t2 := ne_turn (C := C) h11 h9 (j := 2) (by decide) (some (.str [77]))
  have t3 := ne_turn (C := C) h11 h9 (j := 3) (by decide) (some (.str [81]))
  have s1 : exS C xne1 [some (.str bits), some (.lst ((List.range (8 * 0)).map (tri d))), none, none, none, none, none] = .nx [some (.str bits), some (.lst ((List.range 32).map (tri d))), some (.str [72]), none, none, none, none] := fr_ok (xs := [.str [76], .str [77], .str [81], .str [72]]) rfl (fl_nx t0 (fl_nx t1 (fl_nx t2 (fl_nx t3 rfl))))
  have hl : ((List.range 32).map (tri d)).length ≤ SZ := by simp; decide
  have c2 : evE C (.cp 0 [5] (.nm 5) (.of 0 (.var 1)) none (.idx (.var 5) (.int 0))) [some (.str bits), some (.lst ((List.range 32).map (tri d))), some (.str [72]), none, none, none, none] = .ok (.lst ((dL d).map .int)) [some (.str bits), some (.lst ((List.range 32).map (tri d))), some (.str [72]), none, none, none, none] := by
    refine (cp_map (xs := (List.range 32).map (tri d)) (env1 := [some (.str bits), some (.lst ((List.range 32).map (tri d))), some (.str [72]), none, none, none, none]) (fun x => match x with
      | .tup (y :: _) => y
      | _ => .non) (by simp) (by simp -implicitDefEqProofs only [R.bind_ok', R.bind_ex', R.of_some, R.then_ok, R.then_ex, O.then_nx, O.then_rt, O.then_ex, O.then_ct, O.then_bk, getV0, getVs, tst_ok, tst_ex, R.of_none, e_non, e_bl, e_int, e_str, e_var, e_bv, e_gl, e_bin, e_neg, e_nt, e_an, e_or, e_cmp, e_chn, e_ite, e_lst, e_tup, e_idx, e_sl, e_rev, e_call, e_call0, e_callv, nox_ok, e_b1, e_b2, e_isi, e_m1, e_lrg, es_nil, es_cons, ea_nil, ea_io, ea_non, ea_bl, ea_int, ea_str, ea_var, ea_gl, ea_bin, ea_neg, ea_nt, ea_an, ea_or, ea_cmp, ea_chn, ea_ite, ea_lst, ea_tup, ea_idx, ea_sl, ea_rev, ea_call, ea_b1, ea_b2, ea_isi, ea_m1, ea_lrg, ea_cp, ea_mv, eo_none, eo_some, ec_none, ec_some, ei_of, ei_r1, ei_r2, x_ex, x_set, x_setT, x_par, x_sto, x_sto2, x_app1, x_augS, x_app, x_rvs, revv_l, revB_l, revB_s, x_aug, x_ret, x_retN, x_ite, x_raise, xh_nil, xh_cons, nxo_rt, nxo_nx, x_pass, x_brk, x_cnt, xs_nil, xs_cons, bop_add, bop_sub, bop_mul, bop_fdiv, bop_mod, bop_pow, bop_addl, bop_adds, bop_mull, bop_muls, aop_add, aop_sub, cop_eqi, cop_nei, cop_eqs, cop_nes, cop_eqb, cop_lt, cop_le, cop_gt, cop_ge, cop_lts, cop_les, cop_is, cop_isn, b1_lenl, b1_lent, b1_lens, b1_sum, b1_abs, b1_list, b1_listt, b1_lists, b1_tuple, idx_l, idxL_l, idx_t, idx_s, truth_bl, truth_int, truth_lst, truth_tup, truth_str, truth_non, at_nil, on_nil, items0, items1, items2, items3, set_nm, set_tp, sm_nil, sm_cons, av_nil', av_cons, avg_v, avg_io, pb_nil, pb_io, pb_v, hb_nil, hb_v, hb_io, do_call, hk_l, hk_t, hk_s, hk_i, hk_b, hk_n, fins_nil, fins_cons, b2_min, b2_max, cop_neb, slc_l, slc_s, slc_t, mty_join, mty_lindex, mty_sindex, mty_split, mty_scount, isTy_list, isTy_tuple, isTy_str, isTy_int, isTy_bi, e_sortR, e_xmin, on_slot, grd_pos, x_ext, out_rt, out_nx, out_ex, out1_rt, out1_nx, out1_ex, ex_nx, List.set_cons_zero, List.set_cons_succ, List.reverse_cons, List.reverse_nil, List.nil_append, List.cons_append, Option.map_some, Option.map_none, Bool.not_true, Bool.not_false, decide_true, decide_false, if_true, if_false, Bool.false_eq_true, Bool.true_and, Bool.and_true, Bool.false_and, Bool.and_false, Bool.true_or, Bool.or_true, Bool.false_or, Bool.or_false, not_true_eq_false, not_false_eq_true, and_true, true_and, PV.lf, PV.isNon, storeV, List.length_cons, List.length_nil, List.length_map, List.isEmpty_cons, List.isEmpty_nil, and_self, Int.natCast_zero, Bool.not_not, Nat.zero_add, Int.cast_ofNat_Int, Int.reduceLT, Int.reduceLE, Int.reduceAdd, Int.reduceSub, Int.reduceMul, Int.reduceNeg, Int.reduceBEq, Int.reduceBNe, Int.reduceDiv, Int.reduceMod, Int.reduceEq, Int.reduceToNat, Nat.reduceAdd, Nat.reduceLT, Nat.reduceLeDiff, reduceIte, Nat.reduceEqDiff, reduceCtorEq, Nat.reduceMul, Nat.reduceSub, Nat.reduceBEq, List.reduceReplicate, Int.reduceGT, Int.reduceGE, pix_0, pix_1, pix_2, pix_3, List.map_cons, List.map_nil, beq_self_eq_true, bne_self_eq_false, e_mv]) (fun x hx => ?_) hl).trans ?_
    · obtain ⟨i, hi, rfl⟩ := List.mem_map.mp hx
      unfold tri
      simp -implicitDefEqProofs only [R.bind_ok', R.bind_ex', R.of_some, R.then_ok, R.then_ex, O.then_nx, O.then_rt, O.then_ex, O.then_ct, O.then_bk, getV0, getVs, tst_ok, tst_ex, R.of_none, e_non, e_bl, e_int, e_str, e_var, e_bv, e_gl, e_bin, e_neg, e_nt, e_an, e_or, e_cmp, e_chn, e_ite, e_lst, e_tup, e_idx, e_sl, e_rev, e_call, e_call0, e_callv, nox_ok, e_b1, e_b2, e_isi, e_m1, e_lrg, es_nil, es_cons, ea_nil, ea_io, ea_non, ea_bl, ea_int, ea_str, ea_var, ea_gl, ea_bin, ea_neg, ea_nt, ea_an, ea_or, ea_cmp, ea_chn, ea_ite, ea_lst, ea_tup, ea_idx, ea_sl, ea_rev, ea_call, ea_b1, ea_b2, ea_isi, ea_m1, ea_lrg, ea_cp, ea_mv, eo_none, eo_some, ec_none, ec_some, ei_of, ei_r1, ei_r2, x_ex, x_set, x_setT, x_par, x_sto, x_sto2, x_app1, x_augS, x_app, x_rvs, revv_l, revB_l, revB_s, x_aug, x_ret, x_retN, x_ite, x_raise, xh_nil, xh_cons, nxo_rt, nxo_nx, x_pass, x_brk, x_cnt, xs_nil, xs_cons, bop_add, bop_sub, bop_mul, bop_fdiv, bop_mod, bop_pow, bop_addl, bop_adds, bop_mull, bop_muls, aop_add, aop_sub, cop_eqi, cop_nei, cop_eqs, cop_nes, cop_eqb, cop_lt, cop_le, cop_gt, cop_ge, cop_lts, cop_les, cop_is, cop_isn, b1_lenl, b1_lent, b1_lens, b1_sum, b1_abs, b1_list, b1_listt, b1_lists, b1_tuple, idx_l, idxL_l, idx_t, idx_s, truth_bl, truth_int, truth_lst, truth_tup, truth_str, truth_non, at_nil, on_nil, items0, items1, items2, items3, set_nm, set_tp, sm_nil, sm_cons, av_nil', av_cons, avg_v, avg_io, pb_nil, pb_io, pb_v, hb_nil, hb_v, hb_io, do_call, hk_l, hk_t, hk_s, hk_i, hk_b, hk_n, fins_nil, fins_cons, b2_min, b2_max, cop_neb, slc_l, slc_s, slc_t, mty_join, mty_lindex, mty_sindex, mty_split, mty_scount, isTy_list, isTy_tuple, isTy_str, isTy_int, isTy_bi, e_sortR, e_xmin, on_slot, grd_pos, x_ext, out_rt, out_nx, out_ex, out1_rt, out1_nx, out1_ex, ex_nx, List.set_cons_zero, List.set_cons_succ, List.reverse_cons, List.reverse_nil, List.nil_append, List.cons_append, Option.map_some, Option.map_none, Bool.not_true, Bool.not_false, decide_true, decide_false, if_true, if_false, Bool.false_eq_true, Bool.true_and, Bool.and_true, Bool.false_and, Bool.and_false, Bool.true_or, Bool.or_true, Bool.false_or, Bool.or_false, not_true_eq_false, not_false_eq_true, and_true, true_and, PV.lf, PV.isNon, storeV, List.length_cons, List.length_nil, List.length_map, List.isEmpty_cons, List.isEmpty_nil, and_self, Int.natCast_zero, Bool.not_not, Nat.zero_add, Int.cast_ofNat_Int, Int.reduceLT, Int.reduceLE, Int.reduceAdd, Int.reduceSub, Int.reduceMul, Int.reduceNeg, Int.reduceBEq, Int.reduceBNe, Int.reduceDiv, Int.reduceMod, Int.reduceEq, Int.reduceToNat, Nat.reduceAdd, Nat.reduceLT, Nat.reduceLeDiff, reduceIte, Nat.reduceEqDiff, reduceCtorEq, Nat.reduceMul, Nat.reduceSub, Nat.reduceBEq, List.reduceReplicate, Int.reduceGT, Int.reduceGE, pix_0, pix_1, pix_2, pix_3, List.map_cons, List.map_nil, beq_self_eq_true, bne_self_eq_false, e_mv]
    · unfold dL
      rw [List.map_map, List.map_map]
      rfl
  have mn : b1 .min (.lst ((dL d).map .int)) = some (.int (d a : Nat)) := by
    rw [b1_min_ok (by unfold dL; simp), dL_min S]
  have s2 : exS C xne2 [some (.str bits), some (.lst ((List.range 32).map (tri d))), some (.str [72]), none, none, none, none] = .nx [some (.str bits), some (.lst ((List.range 32).map (tri d))), some (.str [72]), none, some (.int (d a : Nat)), none, none] := by
    unfold xne2
    rw [x_set, e_b1, c2, R.bind_ok', mn]
    rfl
  have c3 : evE C (.cp 0 [5] (.nm 5) (.of 0 (.var 1)) (some (.cmp .eq (.idx (.var 5) (.int 0)) (.var 4))) (.var 5)) [some (.str bits), some (.lst ((List.range 32).map (tri d))), some (.str [72]), none, some (.int (d a : Nat)), none, none] = .ok (.lst ((NR d a).map (tri d))) [some (.str bits), some (.lst ((List.range 32).map (tri d))), some (.str [72]), none, some (.int (d a : Nat)), none, none] := by
    refine (cp_sift (xs := (List.range 32).map (tri d)) (env1 := [some (.str bits), some (.lst ((List.range 32).map (tri d))), some (.str [72]), none, some (.int (d a : Nat)), none, none]) (fun x => match x with
      | .tup (.int y :: _) => decide (y = (d a : Nat))
      | _ => false) (fun x => x) (by simp) (by simp -implicitDefEqProofs only [R.bind_ok', R.bind_ex', R.of_some, R.then_ok, R.then_ex, O.then_nx, O.then_rt, O.then_ex, O.then_ct, O.then_bk, getV0, getVs, tst_ok, tst_ex, R.of_none, e_non, e_bl, e_int, e_str, e_var, e_bv, e_gl, e_bin, e_neg, e_nt, e_an, e_or, e_cmp, e_chn, e_ite, e_lst, e_tup, e_idx, e_sl, e_rev, e_call, e_call0, e_callv, nox_ok, e_b1, e_b2, e_isi, e_m1, e_lrg, es_nil, es_cons, ea_nil, ea_io, ea_non, ea_bl, ea_int, ea_str, ea_var, ea_gl, ea_bin, ea_neg, ea_nt, ea_an, ea_or, ea_cmp, ea_chn, ea_ite, ea_lst, ea_tup, ea_idx, ea_sl, ea_rev, ea_call, ea_b1, ea_b2, ea_isi, ea_m1, ea_lrg, ea_cp, ea_mv, eo_none, eo_some, ec_none, ec_some, ei_of, ei_r1, ei_r2, x_ex, x_set, x_setT, x_par, x_sto, x_sto2, x_app1, x_augS, x_app, x_rvs, revv_l, revB_l, revB_s, x_aug, x_ret, x_retN, x_ite, x_raise, xh_nil, xh_cons, nxo_rt, nxo_nx, x_pass, x_brk, x_cnt, xs_nil, xs_cons, bop_add, bop_sub, bop_mul, bop_fdiv, bop_mod, bop_pow, bop_addl, bop_adds, bop_mull, bop_muls, aop_add, aop_sub, cop_eqi, cop_nei, cop_eqs, cop_nes, cop_eqb, cop_lt, cop_le, cop_gt, cop_ge, cop_lts, cop_les, cop_is, cop_isn, b1_lenl, b1_lent, b1_lens, b1_sum, b1_abs, b1_list, b1_listt, b1_lists, b1_tuple, idx_l, idxL_l, idx_t, idx_s, truth_bl, truth_int, truth_lst, truth_tup, truth_str, truth_non, at_nil, on_nil, items0, items1, items2, items3, set_nm, set_tp, sm_nil, sm_cons, av_nil', av_cons, avg_v, avg_io, pb_nil, pb_io, pb_v, hb_nil, hb_v, hb_io, do_call, hk_l, hk_t, hk_s, hk_i, hk_b, hk_n, fins_nil, fins_cons, b2_min, b2_max, cop_neb, slc_l, slc_s, slc_t, mty_join, mty_lindex, mty_sindex, mty_split, mty_scount, isTy_list, isTy_tuple, isTy_str, isTy_int, isTy_bi, e_sortR, e_xmin, on_slot, grd_pos, x_ext, out_rt, out_nx, out_ex, out1_rt, out1_nx, out1_ex, ex_nx, List.set_cons_zero, List.set_cons_succ, List.reverse_cons, List.reverse_nil, List.nil_append, List.cons_append, Option.map_some, Option.map_none, Bool.not_true, Bool.not_false, decide_true, decide_false, if_true, if_false, Bool.false_eq_true, Bool.true_and, Bool.and_true, Bool.false_and, Bool.and_false, Bool.true_or, Bool.or_true, Bool.false_or, Bool.or_false, not_true_eq_false, not_false_eq_true, and_true, true_and, PV.lf, PV.isNon, storeV, List.length_cons, List.length_nil, List.length_map, List.isEmpty_cons, List.isEmpty_nil, and_self, Int.natCast_zero, Bool.not_not, Nat.zero_add, Int.cast_ofNat_Int, Int.reduceLT, Int.reduceLE, Int.reduceAdd, Int.reduceSub, Int.reduceMul, Int.reduceNeg, Int.reduceBEq, Int.reduceBNe, Int.reduceDiv, Int.reduceMod, Int.reduceEq, Int.reduceToNat, Nat.reduceAdd, Nat.reduceLT, Nat.reduceLeDiff, reduceIte, Nat.reduceEqDiff, reduceCtorEq, Nat.reduceMul, Nat.reduceSub, Nat.reduceBEq, List.reduceReplicate, Int.reduceGT, Int.reduceGE, pix_0, pix_1, pix_2, pix_3, List.map_cons, List.map_nil, beq_self_eq_true, bne_self_eq_false, e_mv]) (fun x hx => ?_) (fun x hx _ => ?_) hl).trans ?_
    · obtain ⟨i, hi, rfl⟩ := List.mem_map.mp hx
      unfold tri
      simp -implicitDefEqProofs only [R.bind_ok', R.bind_ex', R.of_some, R.then_ok, R.then_ex, O.then_nx, O.then_rt, O.then_ex, O.then_ct, O.then_bk, getV0, getVs, tst_ok, tst_ex, R.of_none, e_non, e_bl, e_int, e_str, e_var, e_bv, e_gl, e_bin, e_neg, e_nt, e_an, e_or, e_cmp, e_chn, e_ite, e_lst, e_tup, e_idx, e_sl, e_rev, e_call, e_call0, e_callv, nox_ok, e_b1, e_b2, e_isi, e_m1, e_lrg, es_nil, es_cons, ea_nil, ea_io, ea_non, ea_bl, ea_int, ea_str, ea_var, ea_gl, ea_bin, ea_neg, ea_nt, ea_an, ea_or, ea_cmp, ea_chn, ea_ite, ea_lst, ea_tup, ea_idx, ea_sl, ea_rev, ea_call, ea_b1, ea_b2, ea_isi, ea_m1, ea_lrg, ea_cp, ea_mv, eo_none, eo_some, ec_none, ec_some, ei_of, ei_r1, ei_r2, x_ex, x_set, x_setT, x_par, x_sto, x_sto2, x_app1, x_augS, x_app, x_rvs, revv_l, revB_l, revB_s, x_aug, x_ret, x_retN, x_ite, x_raise, xh_nil, xh_cons, nxo_rt, nxo_nx, x_pass, x_brk, x_cnt, xs_nil, xs_cons, bop_add, bop_sub, bop_mul, bop_fdiv, bop_mod, bop_pow, bop_addl, bop_adds, bop_mull, bop_muls, aop_add, aop_sub, cop_eqi, cop_nei, cop_eqs, cop_nes, cop_eqb, cop_lt, cop_le, cop_gt, cop_ge, cop_lts, cop_les, cop_is, cop_isn, b1_lenl, b1_lent, b1_lens, b1_sum, b1_abs, b1_list, b1_listt, b1_lists, b1_tuple, idx_l, idxL_l, idx_t, idx_s, truth_bl, truth_int, truth_lst, truth_tup, truth_str, truth_non, at_nil, on_nil, items0, items1, items2, items3, set_nm, set_tp, sm_nil, sm_cons, av_nil', av_cons, avg_v, avg_io, pb_nil, pb_io, pb_v, hb_nil, hb_v, hb_io, do_call, hk_l, hk_t, hk_s, hk_i, hk_b, hk_n, fins_nil, fins_cons, b2_min, b2_max, cop_neb, slc_l, slc_s, slc_t, mty_join, mty_lindex, mty_sindex, mty_split, mty_scount, isTy_list, isTy_tuple, isTy_str, isTy_int, isTy_bi, e_sortR, e_xmin, on_slot, grd_pos, x_ext, out_rt, out_nx, out_ex, out1_rt, out1_nx, out1_ex, ex_nx, List.set_cons_zero, List.set_cons_succ, List.reverse_cons, List.reverse_nil, List.nil_append, List.cons_append, Option.map_some, Option.map_none, Bool.not_true, Bool.not_false, decide_true, decide_false, if_true, if_false, Bool.false_eq_true, Bool.true_and, Bool.and_true, Bool.false_and, Bool.and_false, Bool.true_or, Bool.or_true, Bool.false_or, Bool.or_false, not_true_eq_false, not_false_eq_true, and_true, true_and, PV.lf, PV.isNon, storeV, List.length_cons, List.length_nil, List.length_map, List.isEmpty_cons, List.isEmpty_nil, and_self, Int.natCast_zero, Bool.not_not, Nat.zero_add, Int.cast_ofNat_Int, Int.reduceLT, Int.reduceLE, Int.reduceAdd, Int.reduceSub, Int.reduceMul, Int.reduceNeg, Int.reduceBEq, Int.reduceBNe, Int.reduceDiv, Int.reduceMod, Int.reduceEq, Int.reduceToNat, Nat.reduceAdd, Nat.reduceLT, Nat.reduceLeDiff, reduceIte, Nat.reduceEqDiff, reduceCtorEq, Nat.reduceMul, Nat.reduceSub, Nat.reduceBEq, List.reduceReplicate, Int.reduceGT, Int.reduceGE, pix_0, pix_1, pix_2, pix_3, List.map_cons, List.map_nil, beq_self_eq_true, bne_self_eq_false, e_mv]
      first | done | rfl
    · obtain ⟨i, hi, rfl⟩ := List.mem_map.mp hx
      simp -implicitDefEqProofs only [R.bind_ok', R.bind_ex', R.of_some, R.then_ok, R.then_ex, O.then_nx, O.then_rt, O.then_ex, O.then_ct, O.then_bk, getV0, getVs, tst_ok, tst_ex, R.of_none, e_non, e_bl, e_int, e_str, e_var, e_bv, e_gl, e_bin, e_neg, e_nt, e_an, e_or, e_cmp, e_chn, e_ite, e_lst, e_tup, e_idx, e_sl, e_rev, e_call, e_call0, e_callv, nox_ok, e_b1, e_b2, e_isi, e_m1, e_lrg, es_nil, es_cons, ea_nil, ea_io, ea_non, ea_bl, ea_int, ea_str, ea_var, ea_gl, ea_bin, ea_neg, ea_nt, ea_an, ea_or, ea_cmp, ea_chn, ea_ite, ea_lst, ea_tup, ea_idx, ea_sl, ea_rev, ea_call, ea_b1, ea_b2, ea_isi, ea_m1, ea_lrg, ea_cp, ea_mv, eo_none, eo_some, ec_none, ec_some, ei_of, ei_r1, ei_r2, x_ex, x_set, x_setT, x_par, x_sto, x_sto2, x_app1, x_augS, x_app, x_rvs, revv_l, revB_l, revB_s, x_aug, x_ret, x_retN, x_ite, x_raise, xh_nil, xh_cons, nxo_rt, nxo_nx, x_pass, x_brk, x_cnt, xs_nil, xs_cons, bop_add, bop_sub, bop_mul, bop_fdiv, bop_mod, bop_pow, bop_addl, bop_adds, bop_mull, bop_muls, aop_add, aop_sub, cop_eqi, cop_nei, cop_eqs, cop_nes, cop_eqb, cop_lt, cop_le, cop_gt, cop_ge, cop_lts, cop_les, cop_is, cop_isn, b1_lenl, b1_lent, b1_lens, b1_sum, b1_abs, b1_list, b1_listt, b1_lists, b1_tuple, idx_l, idxL_l, idx_t, idx_s, truth_bl, truth_int, truth_lst, truth_tup, truth_str, truth_non, at_nil, on_nil, items0, items1, items2, items3, set_nm, set_tp, sm_nil, sm_cons, av_nil', av_cons, avg_v, avg_io, pb_nil, pb_io, pb_v, hb_nil, hb_v, hb_io, do_call, hk_l, hk_t, hk_s, hk_i, hk_b, hk_n, fins_nil, fins_cons, b2_min, b2_max, cop_neb, slc_l, slc_s, slc_t, mty_join, mty_lindex, mty_sindex, mty_split, mty_scount, isTy_list, isTy_tuple, isTy_str, isTy_int, isTy_bi, e_sortR, e_xmin, on_slot, grd_pos, x_ext, out_rt, out_nx, out_ex, out1_rt, out1_nx, out1_ex, ex_nx, List.set_cons_zero, List.set_cons_succ, List.reverse_cons, List.reverse_nil, List.nil_append, List.cons_append, Option.map_some, Option.map_none, Bool.not_true, Bool.not_false, decide_true, decide_false, if_true, if_false, Bool.false_eq_true, Bool.true_and, Bool.and_true, Bool.false_and, Bool.and_false, Bool.true_or, Bool.or_true, Bool.false_or, Bool.or_false, not_true_eq_false, not_false_eq_true, and_true, true_and, PV.lf, PV.isNon, storeV, List.length_cons, List.length_nil, List.length_map, List.isEmpty_cons, List.isEmpty_nil, and_self, Int.natCast_zero, Bool.not_not, Nat.zero_add, Int.cast_ofNat_Int, Int.reduceLT, Int.reduceLE, Int.reduceAdd, Int.reduceSub, Int.reduceMul, Int.reduceNeg, Int.reduceBEq, Int.reduceBNe, Int.reduceDiv, Int.reduceMod, Int.reduceEq, Int.reduceToNat, Nat.reduceAdd, Nat.reduceLT, Nat.reduceLeDiff, reduceIte, Nat.reduceEqDiff, reduceCtorEq, Nat.reduceMul, Nat.reduceSub, Nat.reduceBEq, List.reduceReplicate, Int.reduceGT, Int.reduceGE, pix_0, pix_1, pix_2, pix_3, List.map_cons, List.map_nil, beq_self_eq_true, bne_self_eq_false, e_mv]
    · rw [List.filter_map, List.map_id']
      unfold NR
      refine congrArg (fun l => R.ok (PV.lst (l.map (tri d))) _) (List.filter_congr fun i hi => ?_)
      show decide ((d i : Int) = (d a : Int)) = decide (d i = d a)
      exact decide_eq_decide.mpr (by omega)
  have s3 : exS C xne3 [some (.str bits), some (.lst ((List.range 32).map (tri d))), some (.str [72]), none, some (.int (d a : Nat)), none, none] = .nx [some (.str bits), some (.lst ((List.range 32).map (tri d))), some (.str [72]), none, some (.int (d a : Nat)), none, some (.lst ((NR d a).map (tri d)))] := by
    unfold xne3
    rw [x_set, c3]
    rfl
  have s4 : exS C xne4 [some (.str bits), some (.lst ((List.range 32).map (tri d))), some (.str [72]), none, some (.int (d a : Nat)), none, some (.lst ((NR d a).map (tri d)))] = .rt (NV d a b) [some (.str bits), some (.lst ((List.range 32).map (tri d))), some (.str [72]), none, some (.int (d a : Nat)), none, some (.lst ((NR d a).map (tri d)))] := by
    unfold NV
    by_cases q : d a = d b
    · have h1 := NR_eq S q
      have h1 : ((((NR d a).map (tri d)).length : Int) == 1) = false := by
        rw [List.length_map]
        exact beq_eq_false_iff_ne.mpr (by omega)
      rw [if_pos (.inr q)]
      generalize (NR d a).map (tri d) = N at h1
      simp -implicitDefEqProofs only [R.bind_ok', R.bind_ex', R.of_some, R.then_ok, R.then_ex, O.then_nx, O.then_rt, O.then_ex, O.then_ct, O.then_bk, getV0, getVs, tst_ok, tst_ex, R.of_none, e_non, e_bl, e_int, e_str, e_var, e_bv, e_gl, e_bin, e_neg, e_nt, e_an, e_or, e_cmp, e_chn, e_ite, e_lst, e_tup, e_idx, e_sl, e_rev, e_call, e_call0, e_callv, nox_ok, e_b1, e_b2, e_isi, e_m1, e_lrg, es_nil, es_cons, ea_nil, ea_io, ea_non, ea_bl, ea_int, ea_str, ea_var, ea_gl, ea_bin, ea_neg, ea_nt, ea_an, ea_or, ea_cmp, ea_chn, ea_ite, ea_lst, ea_tup, ea_idx, ea_sl, ea_rev, ea_call, ea_b1, ea_b2, ea_isi, ea_m1, ea_lrg, ea_cp, ea_mv, eo_none, eo_some, ec_none, ec_some, ei_of, ei_r1, ei_r2, x_ex, x_set, x_setT, x_par, x_sto, x_sto2, x_app1, x_augS, x_app, x_rvs, revv_l, revB_l, revB_s, x_aug, x_ret, x_retN, x_ite, x_raise, xh_nil, xh_cons, nxo_rt, nxo_nx, x_pass, x_brk, x_cnt, xs_nil, xs_cons, bop_add, bop_sub, bop_mul, bop_fdiv, bop_mod, bop_pow, bop_addl, bop_adds, bop_mull, bop_muls, aop_add, aop_sub, cop_eqi, cop_nei, cop_eqs, cop_nes, cop_eqb, cop_lt, cop_le, cop_gt, cop_ge, cop_lts, cop_les, cop_is, cop_isn, b1_lenl, b1_lent, b1_lens, b1_sum, b1_abs, b1_list, b1_listt, b1_lists, b1_tuple, idx_l, idxL_l, idx_t, idx_s, truth_bl, truth_int, truth_lst, truth_tup, truth_str, truth_non, at_nil, on_nil, items0, items1, items2, items3, set_nm, set_tp, sm_nil, sm_cons, av_nil', av_cons, avg_v, avg_io, pb_nil, pb_io, pb_v, hb_nil, hb_v, hb_io, do_call, hk_l, hk_t, hk_s, hk_i, hk_b, hk_n, fins_nil, fins_cons, b2_min, b2_max, cop_neb, slc_l, slc_s, slc_t, mty_join, mty_lindex, mty_sindex, mty_split, mty_scount, isTy_list, isTy_tuple, isTy_str, isTy_int, isTy_bi, e_sortR, e_xmin, on_slot, grd_pos, x_ext, out_rt, out_nx, out_ex, out1_rt, out1_nx, out1_ex, ex_nx, List.set_cons_zero, List.set_cons_succ, List.reverse_cons, List.reverse_nil, List.nil_append, List.cons_append, Option.map_some, Option.map_none, Bool.not_true, Bool.not_false, decide_true, decide_false, if_true, if_false, Bool.false_eq_true, Bool.true_and, Bool.and_true, Bool.false_and, Bool.and_false, Bool.true_or, Bool.or_true, Bool.false_or, Bool.or_false, not_true_eq_false, not_false_eq_true, and_true, true_and, PV.lf, PV.isNon, storeV, List.length_cons, List.length_nil, List.length_map, List.isEmpty_cons, List.isEmpty_nil, and_self, Int.natCast_zero, Bool.not_not, Nat.zero_add, Int.cast_ofNat_Int, Int.reduceLT, Int.reduceLE, Int.reduceAdd, Int.reduceSub, Int.reduceMul, Int.reduceNeg, Int.reduceBEq, Int.reduceBNe, Int.reduceDiv, Int.reduceMod, Int.reduceEq, Int.reduceToNat, Nat.reduceAdd, Nat.reduceLT, Nat.reduceLeDiff, reduceIte, Nat.reduceEqDiff, reduceCtorEq, Nat.reduceMul, Nat.reduceSub, Nat.reduceBEq, List.reduceReplicate, Int.reduceGT, Int.reduceGE, pix_0, pix_1, pix_2, pix_3, List.map_cons, List.map_nil, beq_self_eq_true, bne_self_eq_false, e_mv, xne4, h1]
    · rw [NR_ne S q]
      by_cases z : 3 < d a
      · have z' : ¬ (d a : Int) ≤ 3 := by omega
        rw [if_pos (.inl z)]
        simp -implicitDefEqProofs only [R.bind_ok', R.bind_ex', R.of_some, R.then_ok, R.then_ex, O.then_nx, O.then_rt, O.then_ex, O.then_ct, O.then_bk, getV0, getVs, tst_ok, tst_ex, R.of_none, e_non, e_bl, e_int, e_str, e_var, e_bv, e_gl, e_bin, e_neg, e_nt, e_an, e_or, e_cmp, e_chn, e_ite, e_lst, e_tup, e_idx, e_sl, e_rev, e_call, e_call0, e_callv, nox_ok, e_b1, e_b2, e_isi, e_m1, e_lrg, es_nil, es_cons, ea_nil, ea_io, ea_non, ea_bl, ea_int, ea_str, ea_var, ea_gl, ea_bin, ea_neg, ea_nt, ea_an, ea_or, ea_cmp, ea_chn, ea_ite, ea_lst, ea_tup, ea_idx, ea_sl, ea_rev, ea_call, ea_b1, ea_b2, ea_isi, ea_m1, ea_lrg, ea_cp, ea_mv, eo_none, eo_some, ec_none, ec_some, ei_of, ei_r1, ei_r2, x_ex, x_set, x_setT, x_par, x_sto, x_sto2, x_app1, x_augS, x_app, x_rvs, revv_l, revB_l, revB_s, x_aug, x_ret, x_retN, x_ite, x_raise, xh_nil, xh_cons, nxo_rt, nxo_nx, x_pass, x_brk, x_cnt, xs_nil, xs_cons, bop_add, bop_sub, bop_mul, bop_fdiv, bop_mod, bop_pow, bop_addl, bop_adds, bop_mull, bop_muls, aop_add, aop_sub, cop_eqi, cop_nei, cop_eqs, cop_nes, cop_eqb, cop_lt, cop_le, cop_gt, cop_ge, cop_lts, cop_les, cop_is, cop_isn, b1_lenl, b1_lent, b1_lens, b1_sum, b1_abs, b1_list, b1_listt, b1_lists, b1_tuple, idx_l, idxL_l, idx_t, idx_s, truth_bl, truth_int, truth_lst, truth_tup, truth_str, truth_non, at_nil, on_nil, items0, items1, items2, items3, set_nm, set_tp, sm_nil, sm_cons, av_nil', av_cons, avg_v, avg_io, pb_nil, pb_io, pb_v, hb_nil, hb_v, hb_io, do_call, hk_l, hk_t, hk_s, hk_i, hk_b, hk_n, fins_nil, fins_cons, b2_min, b2_max, cop_neb, slc_l, slc_s, slc_t, mty_join, mty_lindex, mty_sindex, mty_split, mty_scount, isTy_list, isTy_tuple, isTy_str, isTy_int, isTy_bi, e_sortR, e_xmin, on_slot, grd_pos, x_ext, out_rt, out_nx, out_ex, out1_rt, out1_nx, out1_ex, ex_nx, List.set_cons_zero, List.set_cons_succ, List.reverse_cons, List.reverse_nil, List.nil_append, List.cons_append, Option.map_some, Option.map_none, Bool.not_true, Bool.not_false, decide_true, decide_false, if_true, if_false, Bool.false_eq_true, Bool.true_and, Bool.and_true, Bool.false_and, Bool.and_false, Bool.true_or, Bool.or_true, Bool.false_or, Bool.or_false, not_true_eq_false, not_false_eq_true, and_true, true_and, PV.lf, PV.isNon, storeV, List.length_cons, List.length_nil, List.length_map, List.isEmpty_cons, List.isEmpty_nil, and_self, Int.natCast_zero, Bool.not_not, Nat.zero_add, Int.cast_ofNat_Int, Int.reduceLT, Int.reduceLE, Int.reduceAdd, Int.reduceSub, Int.reduceMul, Int.reduceNeg, Int.reduceBEq, Int.reduceBNe, Int.reduceDiv, Int.reduceMod, Int.reduceEq, Int.reduceToNat, Nat.reduceAdd, Nat.reduceLT, Nat.reduceLeDiff, reduceIte, Nat.reduceEqDiff, reduceCtorEq, Nat.reduceMul, Nat.reduceSub, Nat.reduceBEq, List.reduceReplicate, Int.reduceGT, Int.reduceGE, pix_0, pix_1, pix_2, pix_3, List.map_cons, List.map_nil, beq_self_eq_true, bne_self_eq_false, e_mv, xne4, z', List.map_cons, List.map_nil]
      · have z' : (d a : Int) ≤ 3 := by omega
        rw [if_neg (fun e => e.elim z q)]
        unfold V4 RD
        simp -implicitDefEqProofs only [R.bind_ok', R.bind_ex', R.of_some, R.then_ok, R.then_ex, O.then_nx, O.then_rt, O.then_ex, O.then_ct, O.then_bk, getV0, getVs, tst_ok, tst_ex, R.of_none, e_non, e_bl, e_int, e_str, e_var, e_bv, e_gl, e_bin, e_neg, e_nt, e_an, e_or, e_cmp, e_chn, e_ite, e_lst, e_tup, e_idx, e_sl, e_rev, e_call, e_call0, e_callv, nox_ok, e_b1, e_b2, e_isi, e_m1, e_lrg, es_nil, es_cons, ea_nil, ea_io, ea_non, ea_bl, ea_int, ea_str, ea_var, ea_gl, ea_bin, ea_neg, ea_nt, ea_an, ea_or, ea_cmp, ea_chn, ea_ite, ea_lst, ea_tup, ea_idx, ea_sl, ea_rev, ea_call, ea_b1, ea_b2, ea_isi, ea_m1, ea_lrg, ea_cp, ea_mv, eo_none, eo_some, ec_none, ec_some, ei_of, ei_r1, ei_r2, x_ex, x_set, x_setT, x_par, x_sto, x_sto2, x_app1, x_augS, x_app, x_rvs, revv_l, revB_l, revB_s, x_aug, x_ret, x_retN, x_ite, x_raise, xh_nil, xh_cons, nxo_rt, nxo_nx, x_pass, x_brk, x_cnt, xs_nil, xs_cons, bop_add, bop_sub, bop_mul, bop_fdiv, bop_mod, bop_pow, bop_addl, bop_adds, bop_mull, bop_muls, aop_add, aop_sub, cop_eqi, cop_nei, cop_eqs, cop_nes, cop_eqb, cop_lt, cop_le, cop_gt, cop_ge, cop_lts, cop_les, cop_is, cop_isn, b1_lenl, b1_lent, b1_lens, b1_sum, b1_abs, b1_list, b1_listt, b1_lists, b1_tuple, idx_l, idxL_l, idx_t, idx_s, truth_bl, truth_int, truth_lst, truth_tup, truth_str, truth_non, at_nil, on_nil, items0, items1, items2, items3, set_nm, set_tp, sm_nil, sm_cons, av_nil', av_cons, avg_v, avg_io, pb_nil, pb_io, pb_v, hb_nil, hb_v, hb_io, do_call, hk_l, hk_t, hk_s, hk_i, hk_b, hk_n, fins_nil, fins_cons, b2_min, b2_max, cop_neb, slc_l, slc_s, slc_t, mty_join, mty_lindex, mty_sindex, mty_split, mty_scount, isTy_list, isTy_tuple, isTy_str, isTy_int, isTy_bi, e_sortR, e_xmin, on_slot, grd_pos, x_ext, out_rt, out_nx, out_ex, out1_rt, out1_nx, out1_ex, ex_nx, List.set_cons_zero, List.set_cons_succ, List.reverse_cons, List.reverse_nil, List.nil_append, List.cons_append, Option.map_some, Option.map_none, Bool.not_true, Bool.not_false, decide_true, decide_false, if_true, if_false, Bool.false_eq_true, Bool.true_and, Bool.and_true, Bool.false_and, Bool.and_false, Bool.true_or, Bool.or_true, Bool.false_or, Bool.or_false, not_true_eq_false, not_false_eq_true, and_true, true_and, PV.lf, PV.isNon, storeV, List.length_cons, List.length_nil, List.length_map, List.isEmpty_cons, List.isEmpty_nil, and_self, Int.natCast_zero, Bool.not_not, Nat.zero_add, Int.cast_ofNat_Int, Int.reduceLT, Int.reduceLE, Int.reduceAdd, Int.reduceSub, Int.reduceMul, Int.reduceNeg, Int.reduceBEq, Int.reduceBNe, Int.reduceDiv, Int.reduceMod, Int.reduceEq, Int.reduceToNat, Nat.reduceAdd, Nat.reduceLT, Nat.reduceLeDiff, reduceIte, Nat.reduceEqDiff, reduceCtorEq, Nat.reduceMul, Nat.reduceSub, Nat.reduceBEq, List.reduceReplicate, Int.reduceGT, Int.reduceGE, pix_0, pix_1, pix_2, pix_3, List.map_cons, List.map_nil, beq_self_eq_true, bne_self_eq_false, e_mv, xne4, z', List.map_cons, List.map_nil, tri]
  unfold xne
  rw [xs_cons, s0, O.then_nx, xs_cons, s1, O.then_nx, xs_cons, s2, O.then_nx, xs_cons, s3, O.then_nx, xs_cons, s4]
  rfl
theorem named_run {C : Calls} {bits : List Nat} {d : Nat → Nat} (h21 : C 21 [] = .ok (.lst ALL) []) (h20 : ∀ i, i < 32 → C 20 [.str bits, .str (wd i)] = .ok (.int (d i : Nat)) []) {a b : Nat} {r : List Nat} (S : Srt d a b r) :
    runF f__law_named C [.str bits] = .ok (NV d a b) [] := by
  refine (runF0 (vs := [.str bits]) rfl).trans ?_
  show outF0 (exSs C xln [some (.str bits), none, none, none, none]) = _
  have hI : evI C (.of 0 (.call0 21)) [some (.str bits), none, none, none, none] = .ok ALL [some (.str bits), none, none, none, none] := by simp -implicitDefEqProofs only [R.bind_ok', R.bind_ex', R.of_some, R.then_ok, R.then_ex, O.then_nx, O.then_rt, O.then_ex, O.then_ct, O.then_bk, getV0, getVs, tst_ok, tst_ex, R.of_none, e_non, e_bl, e_int, e_str, e_var, e_bv, e_gl, e_bin, e_neg, e_nt, e_an, e_or, e_cmp, e_chn, e_ite, e_lst, e_tup, e_idx, e_sl, e_rev, e_call, e_call0, e_callv, nox_ok, e_b1, e_b2, e_isi, e_m1, e_lrg, es_nil, es_cons, ea_nil, ea_io, ea_non, ea_bl, ea_int, ea_str, ea_var, ea_gl, ea_bin, ea_neg, ea_nt, ea_an, ea_or, ea_cmp, ea_chn, ea_ite, ea_lst, ea_tup, ea_idx, ea_sl, ea_rev, ea_call, ea_b1, ea_b2, ea_isi, ea_m1, ea_lrg, ea_cp, ea_mv, eo_none, eo_some, ec_none, ec_some, ei_of, ei_r1, ei_r2, x_ex, x_set, x_setT, x_par, x_sto, x_sto2, x_app1, x_augS, x_app, x_rvs, revv_l, revB_l, revB_s, x_aug, x_ret, x_retN, x_ite, x_raise, xh_nil, xh_cons, nxo_rt, nxo_nx, x_pass, x_brk, x_cnt, xs_nil, xs_cons, bop_add, bop_sub, bop_mul, bop_fdiv, bop_mod, bop_pow, bop_addl, bop_adds, bop_mull, bop_muls, aop_add, aop_sub, cop_eqi, cop_nei, cop_eqs, cop_nes, cop_eqb, cop_lt, cop_le, cop_gt, cop_ge, cop_lts, cop_les, cop_is, cop_isn, b1_lenl, b1_lent, b1_lens, b1_sum, b1_abs, b1_list, b1_listt, b1_lists, b1_tuple, idx_l, idxL_l, idx_t, idx_s, truth_bl, truth_int, truth_lst, truth_tup, truth_str, truth_non, at_nil, on_nil, items0, items1, items2, items3, set_nm, set_tp, sm_nil, sm_cons, av_nil', av_cons, avg_v, avg_io, pb_nil, pb_io, pb_v, hb_nil, hb_v, hb_io, do_call, hk_l, hk_t, hk_s, hk_i, hk_b, hk_n, fins_nil, fins_cons, b2_min, b2_max, cop_neb, slc_l, slc_s, slc_t, mty_join, mty_lindex, mty_sindex, mty_split, mty_scount, isTy_list, isTy_tuple, isTy_str, isTy_int, isTy_bi, e_sortR, e_xmin, on_slot, grd_pos, x_ext, out_rt, out_nx, out_ex, out1_rt, out1_nx, out1_ex, ex_nx, List.set_cons_zero, List.set_cons_succ, List.reverse_cons, List.reverse_nil, List.nil_append, List.cons_append, Option.map_some, Option.map_none, Bool.not_true, Bool.not_false, decide_true, decide_false, if_true, if_false, Bool.false_eq_true, Bool.true_and, Bool.and_true, Bool.false_and, Bool.and_false, Bool.true_or, Bool.or_true, Bool.false_or, Bool.or_false, not_true_eq_false, not_false_eq_true, and_true, true_and, PV.lf, PV.isNon, storeV, List.length_cons, List.length_nil, List.length_map, List.isEmpty_cons, List.isEmpty_nil, and_self, Int.natCast_zero, Bool.not_not, Nat.zero_add, Int.cast_ofNat_Int, Int.reduceLT, Int.reduceLE, Int.reduceAdd, Int.reduceSub, Int.reduceMul, Int.reduceNeg, Int.reduceBEq, Int.reduceBNe, Int.reduceDiv, Int.reduceMod, Int.reduceEq, Int.reduceToNat, Nat.reduceAdd, Nat.reduceLT, Nat.reduceLeDiff, reduceIte, Nat.reduceEqDiff, reduceCtorEq, Nat.reduceMul, Nat.reduceSub, Nat.reduceBEq, List.reduceReplicate, Int.reduceGT, Int.reduceGE, pix_0, pix_1, pix_2, pix_3, List.map_cons, List.map_nil, beq_self_eq_true, bne_self_eq_false, e_mv, h21]
  obtain ⟨e6, h1, o2, o3, o4, rfl⟩ := compL_filter (f := compF C [2, 3, 4] (.tp [2, 3, 4]) none (.tup [(.call 20 [(.var 0), (.var 2)]), (.var 3), (.var 4)])) (fun env => ∃ o2 o3 o4, env = [some (.str bits), none, o2, o3, o4]) (fun x => some (match x with
      | .tup [.str w, .str l, .int m] => .tup [.int (match C 20 [.str bits, .str w] with
        | .ok (.int y) _ => y
        | _ => 0), .str l, .int m]
      | _ => .non)) ALL [some (.str bits), none, none, none, none] ⟨none, none, none, rfl⟩ fun x env hx ⟨o2, o3, o4, he⟩ => by
    subst he
    obtain ⟨i, hi, rfl⟩ := List.mem_map.mp hx
    have c20 := h20 i (List.mem_range.mp hi)
    refine ⟨[some (.str bits), none, some (.str (wd i)), some (.str [lvl i]), some (.int (i % 8 : Nat))], ?_, some (.str (wd i)), some (.str [lvl i]), some (.int (i % 8 : Nat)), rfl⟩
    have e1 : setTG (.tp [2, 3, 4]) (AT i) (wipeE [some (.str bits), none, o2, o3, o4] [2, 3, 4]) = some [some (.str bits), none, some (.str (wd i)), some (.str [lvl i]), some (.int (i % 8 : Nat))] := rfl
    have e2 : evE C (.tup [(.call 20 [(.var 0), (.var 2)]), (.var 3), (.var 4)]) [some (.str bits), none, some (.str (wd i)), some (.str [lvl i]), some (.int (i % 8 : Nat))] = .ok (tri d i) [some (.str bits), none, some (.str (wd i)), some (.str [lvl i]), some (.int (i % 8 : Nat))] := by
      unfold tri
      simp -implicitDefEqProofs only [R.bind_ok', R.bind_ex', R.of_some, R.then_ok, R.then_ex, O.then_nx, O.then_rt, O.then_ex, O.then_ct, O.then_bk, getV0, getVs, tst_ok, tst_ex, R.of_none, e_non, e_bl, e_int, e_str, e_var, e_bv, e_gl, e_bin, e_neg, e_nt, e_an, e_or, e_cmp, e_chn, e_ite, e_lst, e_tup, e_idx, e_sl, e_rev, e_call, e_call0, e_callv, nox_ok, e_b1, e_b2, e_isi, e_m1, e_lrg, es_nil, es_cons, ea_nil, ea_io, ea_non, ea_bl, ea_int, ea_str, ea_var, ea_gl, ea_bin, ea_neg, ea_nt, ea_an, ea_or, ea_cmp, ea_chn, ea_ite, ea_lst, ea_tup, ea_idx, ea_sl, ea_rev, ea_call, ea_b1, ea_b2, ea_isi, ea_m1, ea_lrg, ea_cp, ea_mv, eo_none, eo_some, ec_none, ec_some, ei_of, ei_r1, ei_r2, x_ex, x_set, x_setT, x_par, x_sto, x_sto2, x_app1, x_augS, x_app, x_rvs, revv_l, revB_l, revB_s, x_aug, x_ret, x_retN, x_ite, x_raise, xh_nil, xh_cons, nxo_rt, nxo_nx, x_pass, x_brk, x_cnt, xs_nil, xs_cons, bop_add, bop_sub, bop_mul, bop_fdiv, bop_mod, bop_pow, bop_addl, bop_adds, bop_mull, bop_muls, aop_add, aop_sub, cop_eqi, cop_nei, cop_eqs, cop_nes, cop_eqb, cop_lt, cop_le, cop_gt, cop_ge, cop_lts, cop_les, cop_is, cop_isn, b1_lenl, b1_lent, b1_lens, b1_sum, b1_abs, b1_list, b1_listt, b1_lists, b1_tuple, idx_l, idxL_l, idx_t, idx_s, truth_bl, truth_int, truth_lst, truth_tup, truth_str, truth_non, at_nil, on_nil, items0, items1, items2, items3, set_nm, set_tp, sm_nil, sm_cons, av_nil', av_cons, avg_v, avg_io, pb_nil, pb_io, pb_v, hb_nil, hb_v, hb_io, do_call, hk_l, hk_t, hk_s, hk_i, hk_b, hk_n, fins_nil, fins_cons, b2_min, b2_max, cop_neb, slc_l, slc_s, slc_t, mty_join, mty_lindex, mty_sindex, mty_split, mty_scount, isTy_list, isTy_tuple, isTy_str, isTy_int, isTy_bi, e_sortR, e_xmin, on_slot, grd_pos, x_ext, out_rt, out_nx, out_ex, out1_rt, out1_nx, out1_ex, ex_nx, List.set_cons_zero, List.set_cons_succ, List.reverse_cons, List.reverse_nil, List.nil_append, List.cons_append, Option.map_some, Option.map_none, Bool.not_true, Bool.not_false, decide_true, decide_false, if_true, if_false, Bool.false_eq_true, Bool.true_and, Bool.and_true, Bool.false_and, Bool.and_false, Bool.true_or, Bool.or_true, Bool.false_or, Bool.or_false, not_true_eq_false, not_false_eq_true, and_true, true_and, PV.lf, PV.isNon, storeV, List.length_cons, List.length_nil, List.length_map, List.isEmpty_cons, List.isEmpty_nil, and_self, Int.natCast_zero, Bool.not_not, Nat.zero_add, Int.cast_ofNat_Int, Int.reduceLT, Int.reduceLE, Int.reduceAdd, Int.reduceSub, Int.reduceMul, Int.reduceNeg, Int.reduceBEq, Int.reduceBNe, Int.reduceDiv, Int.reduceMod, Int.reduceEq, Int.reduceToNat, Nat.reduceAdd, Nat.reduceLT, Nat.reduceLeDiff, reduceIte, Nat.reduceEqDiff, reduceCtorEq, Nat.reduceMul, Nat.reduceSub, Nat.reduceBEq, List.reduceReplicate, Int.reduceGT, Int.reduceGE, pix_0, pix_1, pix_2, pix_3, List.map_cons, List.map_nil, beq_self_eq_true, bne_self_eq_false, e_mv, c20]
    unfold compF
    rw [e1]
    dsimp only
    rw [ec_none, R.bind_ok', if_pos rfl, e2]
    unfold AT
    simp only [c20]
    rfl
  have hf : (ALL.filterMap fun x => some (match x with
      | .tup [.str w, .str l, .int m] => PV.tup [.int (match C 20 [.str bits, .str w] with
        | .ok (.int y) _ => y
        | _ => 0), .str l, .int m]
      | _ => .non)) = (List.range 32).map (tri d) := by
    unfold ALL
    rw [List.filterMap_eq_map', List.map_map]
    refine List.map_congr_left fun i hi => ?_
    have c20 := h20 i (List.mem_range.mp hi)
    unfold tri AT
    simp only [Function.comp, c20]
  have cE := cp_ok (d := 0) hI h1 (by rw [hf]; simp; decide)
  rw [hf] at cE
  have s0 : exS C xln0 [some (.str bits), none, none, none, none] = .nx [some (.str bits), some (.lst ((a :: b :: r).map (tri d))), none, none, none] := by
    unfold xln0
    rw [x_set, e_srt, cE, R.bind_ok', S.s]
    rfl
  have p0 : pix ((a :: b :: r).map (tri d)) 0 = some (tri d a) := rfl
  have p1 : pix ((a :: b :: r).map (tri d)) 1 = some (tri d b) := rfl
  generalize (a :: b :: r).map (tri d) = L at p0 p1 s0
  unfold xln NV
  rw [xs_cons, s0, O.then_nx]
  unfold tri at p0 p1
  by_cases z : 3 < d a
  · have z' : (3 : Int) < d a := by omega
    rw [if_pos (.inl z)]
    simp -implicitDefEqProofs only [R.bind_ok', R.bind_ex', R.of_some, R.then_ok, R.then_ex, O.then_nx, O.then_rt, O.then_ex, O.then_ct, O.then_bk, getV0, getVs, tst_ok, tst_ex, R.of_none, e_non, e_bl, e_int, e_str, e_var, e_bv, e_gl, e_bin, e_neg, e_nt, e_an, e_or, e_cmp, e_chn, e_ite, e_lst, e_tup, e_idx, e_sl, e_rev, e_call, e_call0, e_callv, nox_ok, e_b1, e_b2, e_isi, e_m1, e_lrg, es_nil, es_cons, ea_nil, ea_io, ea_non, ea_bl, ea_int, ea_str, ea_var, ea_gl, ea_bin, ea_neg, ea_nt, ea_an, ea_or, ea_cmp, ea_chn, ea_ite, ea_lst, ea_tup, ea_idx, ea_sl, ea_rev, ea_call, ea_b1, ea_b2, ea_isi, ea_m1, ea_lrg, ea_cp, ea_mv, eo_none, eo_some, ec_none, ec_some, ei_of, ei_r1, ei_r2, x_ex, x_set, x_setT, x_par, x_sto, x_sto2, x_app1, x_augS, x_app, x_rvs, revv_l, revB_l, revB_s, x_aug, x_ret, x_retN, x_ite, x_raise, xh_nil, xh_cons, nxo_rt, nxo_nx, x_pass, x_brk, x_cnt, xs_nil, xs_cons, bop_add, bop_sub, bop_mul, bop_fdiv, bop_mod, bop_pow, bop_addl, bop_adds, bop_mull, bop_muls, aop_add, aop_sub, cop_eqi, cop_nei, cop_eqs, cop_nes, cop_eqb, cop_lt, cop_le, cop_gt, cop_ge, cop_lts, cop_les, cop_is, cop_isn, b1_lenl, b1_lent, b1_lens, b1_sum, b1_abs, b1_list, b1_listt, b1_lists, b1_tuple, idx_l, idxL_l, idx_t, idx_s, truth_bl, truth_int, truth_lst, truth_tup, truth_str, truth_non, at_nil, on_nil, items0, items1, items2, items3, set_nm, set_tp, sm_nil, sm_cons, av_nil', av_cons, avg_v, avg_io, pb_nil, pb_io, pb_v, hb_nil, hb_v, hb_io, do_call, hk_l, hk_t, hk_s, hk_i, hk_b, hk_n, fins_nil, fins_cons, b2_min, b2_max, cop_neb, slc_l, slc_s, slc_t, mty_join, mty_lindex, mty_sindex, mty_split, mty_scount, isTy_list, isTy_tuple, isTy_str, isTy_int, isTy_bi, e_sortR, e_xmin, on_slot, grd_pos, x_ext, out_rt, out_nx, out_ex, out1_rt, out1_nx, out1_ex, ex_nx, List.set_cons_zero, List.set_cons_succ, List.reverse_cons, List.reverse_nil, List.nil_append, List.cons_append, Option.map_some, Option.map_none, Bool.not_true, Bool.not_false, decide_true, decide_false, if_true, if_false, Bool.false_eq_true, Bool.true_and, Bool.and_true, Bool.false_and, Bool.and_false, Bool.true_or, Bool.or_true, Bool.false_or, Bool.or_false, not_true_eq_false, not_false_eq_true, and_true, true_and, PV.lf, PV.isNon, storeV, List.length_cons, List.length_nil, List.length_map, List.isEmpty_cons, List.isEmpty_nil, and_self, Int.natCast_zero, Bool.not_not, Nat.zero_add, Int.cast_ofNat_Int, Int.reduceLT, Int.reduceLE, Int.reduceAdd, Int.reduceSub, Int.reduceMul, Int.reduceNeg, Int.reduceBEq, Int.reduceBNe, Int.reduceDiv, Int.reduceMod, Int.reduceEq, Int.reduceToNat, Nat.reduceAdd, Nat.reduceLT, Nat.reduceLeDiff, reduceIte, Nat.reduceEqDiff, reduceCtorEq, Nat.reduceMul, Nat.reduceSub, Nat.reduceBEq, List.reduceReplicate, Int.reduceGT, Int.reduceGE, pix_0, pix_1, pix_2, pix_3, List.map_cons, List.map_nil, beq_self_eq_true, bne_self_eq_false, e_mv, xln1, p0, p1, z']
  · have z' : ¬ (3 : Int) < d a := by omega
    by_cases q : d a = d b
    · have q' : ((d a : Int) == (d b : Int)) = true := beq_iff_eq.mpr (by omega)
      rw [if_pos (.inr q)]
      simp -implicitDefEqProofs only [R.bind_ok', R.bind_ex', R.of_some, R.then_ok, R.then_ex, O.then_nx, O.then_rt, O.then_ex, O.then_ct, O.then_bk, getV0, getVs, tst_ok, tst_ex, R.of_none, e_non, e_bl, e_int, e_str, e_var, e_bv, e_gl, e_bin, e_neg, e_nt, e_an, e_or, e_cmp, e_chn, e_ite, e_lst, e_tup, e_idx, e_sl, e_rev, e_call, e_call0, e_callv, nox_ok, e_b1, e_b2, e_isi, e_m1, e_lrg, es_nil, es_cons, ea_nil, ea_io, ea_non, ea_bl, ea_int, ea_str, ea_var, ea_gl, ea_bin, ea_neg, ea_nt, ea_an, ea_or, ea_cmp, ea_chn, ea_ite, ea_lst, ea_tup, ea_idx, ea_sl, ea_rev, ea_call, ea_b1, ea_b2, ea_isi, ea_m1, ea_lrg, ea_cp, ea_mv, eo_none, eo_some, ec_none, ec_some, ei_of, ei_r1, ei_r2, x_ex, x_set, x_setT, x_par, x_sto, x_sto2, x_app1, x_augS, x_app, x_rvs, revv_l, revB_l, revB_s, x_aug, x_ret, x_retN, x_ite, x_raise, xh_nil, xh_cons, nxo_rt, nxo_nx, x_pass, x_brk, x_cnt, xs_nil, xs_cons, bop_add, bop_sub, bop_mul, bop_fdiv, bop_mod, bop_pow, bop_addl, bop_adds, bop_mull, bop_muls, aop_add, aop_sub, cop_eqi, cop_nei, cop_eqs, cop_nes, cop_eqb, cop_lt, cop_le, cop_gt, cop_ge, cop_lts, cop_les, cop_is, cop_isn, b1_lenl, b1_lent, b1_lens, b1_sum, b1_abs, b1_list, b1_listt, b1_lists, b1_tuple, idx_l, idxL_l, idx_t, idx_s, truth_bl, truth_int, truth_lst, truth_tup, truth_str, truth_non, at_nil, on_nil, items0, items1, items2, items3, set_nm, set_tp, sm_nil, sm_cons, av_nil', av_cons, avg_v, avg_io, pb_nil, pb_io, pb_v, hb_nil, hb_v, hb_io, do_call, hk_l, hk_t, hk_s, hk_i, hk_b, hk_n, fins_nil, fins_cons, b2_min, b2_max, cop_neb, slc_l, slc_s, slc_t, mty_join, mty_lindex, mty_sindex, mty_split, mty_scount, isTy_list, isTy_tuple, isTy_str, isTy_int, isTy_bi, e_sortR, e_xmin, on_slot, grd_pos, x_ext, out_rt, out_nx, out_ex, out1_rt, out1_nx, out1_ex, ex_nx, List.set_cons_zero, List.set_cons_succ, List.reverse_cons, List.reverse_nil, List.nil_append, List.cons_append, Option.map_some, Option.map_none, Bool.not_true, Bool.not_false, decide_true, decide_false, if_true, if_false, Bool.false_eq_true, Bool.true_and, Bool.and_true, Bool.false_and, Bool.and_false, Bool.true_or, Bool.or_true, Bool.false_or, Bool.or_false, not_true_eq_false, not_false_eq_true, and_true, true_and, PV.lf, PV.isNon, storeV, List.length_cons, List.length_nil, List.length_map, List.isEmpty_cons, List.isEmpty_nil, and_self, Int.natCast_zero, Bool.not_not, Nat.zero_add, Int.cast_ofNat_Int, Int.reduceLT, Int.reduceLE, Int.reduceAdd, Int.reduceSub, Int.reduceMul, Int.reduceNeg, Int.reduceBEq, Int.reduceBNe, Int.reduceDiv, Int.reduceMod, Int.reduceEq, Int.reduceToNat, Nat.reduceAdd, Nat.reduceLT, Nat.reduceLeDiff, reduceIte, Nat.reduceEqDiff, reduceCtorEq, Nat.reduceMul, Nat.reduceSub, Nat.reduceBEq, List.reduceReplicate, Int.reduceGT, Int.reduceGE, pix_0, pix_1, pix_2, pix_3, List.map_cons, List.map_nil, beq_self_eq_true, bne_self_eq_false, e_mv, xln1, p0, p1, z', q']
    · have q' : ((d a : Int) == (d b : Int)) = false := beq_eq_false_iff_ne.mpr (by omega)
      rw [if_neg (fun e => e.elim z q)]
      unfold V4 RD
      simp -implicitDefEqProofs only [R.bind_ok', R.bind_ex', R.of_some, R.then_ok, R.then_ex, O.then_nx, O.then_rt, O.then_ex, O.then_ct, O.then_bk, getV0, getVs, tst_ok, tst_ex, R.of_none, e_non, e_bl, e_int, e_str, e_var, e_bv, e_gl, e_bin, e_neg, e_nt, e_an, e_or, e_cmp, e_chn, e_ite, e_lst, e_tup, e_idx, e_sl, e_rev, e_call, e_call0, e_callv, nox_ok, e_b1, e_b2, e_isi, e_m1, e_lrg, es_nil, es_cons, ea_nil, ea_io, ea_non, ea_bl, ea_int, ea_str, ea_var, ea_gl, ea_bin, ea_neg, ea_nt, ea_an, ea_or, ea_cmp, ea_chn, ea_ite, ea_lst, ea_tup, ea_idx, ea_sl, ea_rev, ea_call, ea_b1, ea_b2, ea_isi, ea_m1, ea_lrg, ea_cp, ea_mv, eo_none, eo_some, ec_none, ec_some, ei_of, ei_r1, ei_r2, x_ex, x_set, x_setT, x_par, x_sto, x_sto2, x_app1, x_augS, x_app, x_rvs, revv_l, revB_l, revB_s, x_aug, x_ret, x_retN, x_ite, x_raise, xh_nil, xh_cons, nxo_rt, nxo_nx, x_pass, x_brk, x_cnt, xs_nil, xs_cons, bop_add, bop_sub, bop_mul, bop_fdiv, bop_mod, bop_pow, bop_addl, bop_adds, bop_mull, bop_muls, aop_add, aop_sub, cop_eqi, cop_nei, cop_eqs, cop_nes, cop_eqb, cop_lt, cop_le, cop_gt, cop_ge, cop_lts, cop_les, cop_is, cop_isn, b1_lenl, b1_lent, b1_lens, b1_sum, b1_abs, b1_list, b1_listt, b1_lists, b1_tuple, idx_l, idxL_l, idx_t, idx_s, truth_bl, truth_int, truth_lst, truth_tup, truth_str, truth_non, at_nil, on_nil, items0, items1, items2, items3, set_nm, set_tp, sm_nil, sm_cons, av_nil', av_cons, avg_v, avg_io, pb_nil, pb_io, pb_v, hb_nil, hb_v, hb_io, do_call, hk_l, hk_t, hk_s, hk_i, hk_b, hk_n, fins_nil, fins_cons, b2_min, b2_max, cop_neb, slc_l, slc_s, slc_t, mty_join, mty_lindex, mty_sindex, mty_split, mty_scount, isTy_list, isTy_tuple, isTy_str, isTy_int, isTy_bi, e_sortR, e_xmin, on_slot, grd_pos, x_ext, out_rt, out_nx, out_ex, out1_rt, out1_nx, out1_ex, ex_nx, List.set_cons_zero, List.set_cons_succ, List.reverse_cons, List.reverse_nil, List.nil_append, List.cons_append, Option.map_some, Option.map_none, Bool.not_true, Bool.not_false, decide_true, decide_false, if_true, if_false, Bool.false_eq_true, Bool.true_and, Bool.and_true, Bool.false_and, Bool.and_false, Bool.true_or, Bool.or_true, Bool.false_or, Bool.or_false, not_true_eq_false, not_false_eq_true, and_true, true_and, PV.lf, PV.isNon, storeV, List.length_cons, List.length_nil, List.length_map, List.isEmpty_cons, List.isEmpty_nil, and_self, Int.natCast_zero, Bool.not_not, Nat.zero_add, Int.cast_ofNat_Int, Int.reduceLT, Int.reduceLE, Int.reduceAdd, Int.reduceSub, Int.reduceMul, Int.reduceNeg, Int.reduceBEq, Int.reduceBNe, Int.reduceDiv, Int.reduceMod, Int.reduceEq, Int.reduceToNat, Nat.reduceAdd, Nat.reduceLT, Nat.reduceLeDiff, reduceIte, Nat.reduceEqDiff, reduceCtorEq, Nat.reduceMul, Nat.reduceSub, Nat.reduceBEq, List.reduceReplicate, Int.reduceGT, Int.reduceGE, pix_0, pix_1, pix_2, pix_3, List.map_cons, List.map_nil, beq_self_eq_true, bne_self_eq_false, e_mv, xln1, xln2, p0, p1, z', q']
end My

namespace My
open Ev Ev.Pre
/-! ### what the law asks -/
def G01 (s : List Nat) : Prop := s.length = 15 ∧ ∀ c, c ∈ s → c = 48 ∨ c = 49
theorem it_good (C : Calls) {row : List Nat} (h : G01 row) : runF f_is_text C [.str row, .str [48, 49], .int 15, .int 15] = .ok (.bl true) [] := by
  refine (runF0 (vs := [.str row, .str [48, 49], .int 15, .int 15]) rfl).trans ?_
  show outF0 (exSs C xit [some (.str row), some (.str [48, 49]), some (.int 15), some (.int 15), none]) = _
  obtain ⟨hl, h3⟩ := h
  have e1 : evE C (.cp 0 [4] (.nm 4) (.of 2 (.var 0)) (some (.cmp .nin (.var 4) (.var 1))) (.var 4)) [some (.str row), some (.str [48, 49]), some (.int 15), some (.int 15), none] = .ok (.lst []) [some (.str row), some (.str [48, 49]), some (.int 15), some (.int 15), none] := by
    rw [cp_sift (xs := row.map fun c => .str [c]) (env1 := [some (.str row), some (.str [48, 49]), some (.int 15), some (.int 15), none]) (fun _ => false) (fun x => x) (by simp) (by simp -implicitDefEqProofs only [R.bind_ok', R.bind_ex', R.of_some, R.then_ok, R.then_ex, O.then_nx, O.then_rt, O.then_ex, O.then_ct, O.then_bk, getV0, getVs, tst_ok, tst_ex, R.of_none, e_non, e_bl, e_int, e_str, e_var, e_bv, e_gl, e_bin, e_neg, e_nt, e_an, e_or, e_cmp, e_chn, e_ite, e_lst, e_tup, e_idx, e_sl, e_rev, e_call, e_call0, e_callv, nox_ok, e_b1, e_b2, e_isi, e_m1, e_lrg, es_nil, es_cons, ea_nil, ea_io, ea_non, ea_bl, ea_int, ea_str, ea_var, ea_gl, ea_bin, ea_neg, ea_nt, ea_an, ea_or, ea_cmp, ea_chn, ea_ite, ea_lst, ea_tup, ea_idx, ea_sl, ea_rev, ea_call, ea_b1, ea_b2, ea_isi, ea_m1, ea_lrg, ea_cp, ea_mv, eo_none, eo_some, ec_none, ec_some, ei_of, ei_r1, ei_r2, x_ex, x_set, x_setT, x_par, x_sto, x_sto2, x_app1, x_augS, x_app, x_rvs, revv_l, revB_l, revB_s, x_aug, x_ret, x_retN, x_ite, x_raise, xh_nil, xh_cons, nxo_rt, nxo_nx, x_pass, x_brk, x_cnt, xs_nil, xs_cons, bop_add, bop_sub, bop_mul, bop_fdiv, bop_mod, bop_pow, bop_addl, bop_adds, bop_mull, bop_muls, aop_add, aop_sub, cop_eqi, cop_nei, cop_eqs, cop_nes, cop_eqb, cop_lt, cop_le, cop_gt, cop_ge, cop_lts, cop_les, cop_is, cop_isn, b1_lenl, b1_lent, b1_lens, b1_sum, b1_abs, b1_list, b1_listt, b1_lists, b1_tuple, idx_l, idxL_l, idx_t, idx_s, truth_bl, truth_int, truth_lst, truth_tup, truth_str, truth_non, at_nil, on_nil, items0, items1, items2, items3, set_nm, set_tp, sm_nil, sm_cons, av_nil', av_cons, avg_v, avg_io, pb_nil, pb_io, pb_v, hb_nil, hb_v, hb_io, do_call, hk_l, hk_t, hk_s, hk_i, hk_b, hk_n, fins_nil, fins_cons, b2_min, b2_max, cop_neb, slc_l, slc_s, slc_t, mty_join, mty_lindex, mty_sindex, mty_split, mty_scount, isTy_list, isTy_tuple, isTy_str, isTy_int, isTy_bi, e_sortR, e_xmin, on_slot, grd_pos, x_ext, out_rt, out_nx, out_ex, out1_rt, out1_nx, out1_ex, ex_nx, List.set_cons_zero, List.set_cons_succ, List.reverse_cons, List.reverse_nil, List.nil_append, List.cons_append, Option.map_some, Option.map_none, Bool.not_true, Bool.not_false, decide_true, decide_false, if_true, if_false, Bool.false_eq_true, Bool.true_and, Bool.and_true, Bool.false_and, Bool.and_false, Bool.true_or, Bool.or_true, Bool.false_or, Bool.or_false, not_true_eq_false, not_false_eq_true, and_true, true_and, PV.lf, PV.isNon, storeV, List.length_cons, List.length_nil, List.length_map, List.isEmpty_cons, List.isEmpty_nil, and_self, Int.natCast_zero, Bool.not_not, Nat.zero_add, Int.cast_ofNat_Int, Int.reduceLT, Int.reduceLE, Int.reduceAdd, Int.reduceSub, Int.reduceMul, Int.reduceNeg, Int.reduceBEq, Int.reduceBNe, Int.reduceDiv, Int.reduceMod, Int.reduceEq, Int.reduceToNat, Nat.reduceAdd, Nat.reduceLT, Nat.reduceLeDiff, reduceIte, Nat.reduceEqDiff, reduceCtorEq, Nat.reduceMul, Nat.reduceSub, Nat.reduceBEq, List.reduceReplicate, Int.reduceGT, Int.reduceGE, pix_0, pix_1, pix_2, pix_3, List.map_cons, List.map_nil, beq_self_eq_true, bne_self_eq_false, e_mv]) (fun x hx => by
      obtain ⟨c, hc, rfl⟩ := List.mem_map.mp hx
      have hn : cop .nin (.str [c]) (.str [48, 49]) = some false := by
        show some (!decide (c ∈ ([48, 49] : List Nat))) = some false
        rcases h3 c hc with rfl | rfl <;> rfl
      simp -implicitDefEqProofs only [R.bind_ok', R.bind_ex', R.of_some, R.then_ok, R.then_ex, O.then_nx, O.then_rt, O.then_ex, O.then_ct, O.then_bk, getV0, getVs, tst_ok, tst_ex, R.of_none, e_non, e_bl, e_int, e_str, e_var, e_bv, e_gl, e_bin, e_neg, e_nt, e_an, e_or, e_cmp, e_chn, e_ite, e_lst, e_tup, e_idx, e_sl, e_rev, e_call, e_call0, e_callv, nox_ok, e_b1, e_b2, e_isi, e_m1, e_lrg, es_nil, es_cons, ea_nil, ea_io, ea_non, ea_bl, ea_int, ea_str, ea_var, ea_gl, ea_bin, ea_neg, ea_nt, ea_an, ea_or, ea_cmp, ea_chn, ea_ite, ea_lst, ea_tup, ea_idx, ea_sl, ea_rev, ea_call, ea_b1, ea_b2, ea_isi, ea_m1, ea_lrg, ea_cp, ea_mv, eo_none, eo_some, ec_none, ec_some, ei_of, ei_r1, ei_r2, x_ex, x_set, x_setT, x_par, x_sto, x_sto2, x_app1, x_augS, x_app, x_rvs, revv_l, revB_l, revB_s, x_aug, x_ret, x_retN, x_ite, x_raise, xh_nil, xh_cons, nxo_rt, nxo_nx, x_pass, x_brk, x_cnt, xs_nil, xs_cons, bop_add, bop_sub, bop_mul, bop_fdiv, bop_mod, bop_pow, bop_addl, bop_adds, bop_mull, bop_muls, aop_add, aop_sub, cop_eqi, cop_nei, cop_eqs, cop_nes, cop_eqb, cop_lt, cop_le, cop_gt, cop_ge, cop_lts, cop_les, cop_is, cop_isn, b1_lenl, b1_lent, b1_lens, b1_sum, b1_abs, b1_list, b1_listt, b1_lists, b1_tuple, idx_l, idxL_l, idx_t, idx_s, truth_bl, truth_int, truth_lst, truth_tup, truth_str, truth_non, at_nil, on_nil, items0, items1, items2, items3, set_nm, set_tp, sm_nil, sm_cons, av_nil', av_cons, avg_v, avg_io, pb_nil, pb_io, pb_v, hb_nil, hb_v, hb_io, do_call, hk_l, hk_t, hk_s, hk_i, hk_b, hk_n, fins_nil, fins_cons, b2_min, b2_max, cop_neb, slc_l, slc_s, slc_t, mty_join, mty_lindex, mty_sindex, mty_split, mty_scount, isTy_list, isTy_tuple, isTy_str, isTy_int, isTy_bi, e_sortR, e_xmin, on_slot, grd_pos, x_ext, out_rt, out_nx, out_ex, out1_rt, out1_nx, out1_ex, ex_nx, List.set_cons_zero, List.set_cons_succ, List.reverse_cons, List.reverse_nil, List.nil_append, List.cons_append, Option.map_some, Option.map_none, Bool.not_true, Bool.not_false, decide_true, decide_false, if_true, if_false, Bool.false_eq_true, Bool.true_and, Bool.and_true, Bool.false_and, Bool.and_false, Bool.true_or, Bool.or_true, Bool.false_or, Bool.or_false, not_true_eq_false, not_false_eq_true, and_true, true_and, PV.lf, PV.isNon, storeV, List.length_cons, List.length_nil, List.length_map, List.isEmpty_cons, List.isEmpty_nil, and_self, Int.natCast_zero, Bool.not_not, Nat.zero_add, Int.cast_ofNat_Int, Int.reduceLT, Int.reduceLE, Int.reduceAdd, Int.reduceSub, Int.reduceMul, Int.reduceNeg, Int.reduceBEq, Int.reduceBNe, Int.reduceDiv, Int.reduceMod, Int.reduceEq, Int.reduceToNat, Nat.reduceAdd, Nat.reduceLT, Nat.reduceLeDiff, reduceIte, Nat.reduceEqDiff, reduceCtorEq, Nat.reduceMul, Nat.reduceSub, Nat.reduceBEq, List.reduceReplicate, Int.reduceGT, Int.reduceGE, pix_0, pix_1, pix_2, pix_3, List.map_cons, List.map_nil, beq_self_eq_true, bne_self_eq_false, e_mv, hn]) (fun x hx hp => by cases hp) (by rw [List.length_map, hl]; decide)]
    simp
  have hc : cop .eq (.lst []) (.lst []) = some true := rfl
  unfold xit
  simp -implicitDefEqProofs only [R.bind_ok', R.bind_ex', R.of_some, R.then_ok, R.then_ex, O.then_nx, O.then_rt, O.then_ex, O.then_ct, O.then_bk, getV0, getVs, tst_ok, tst_ex, R.of_none, e_non, e_bl, e_int, e_str, e_var, e_bv, e_gl, e_bin, e_neg, e_nt, e_an, e_or, e_cmp, e_chn, e_ite, e_lst, e_tup, e_idx, e_sl, e_rev, e_call, e_call0, e_callv, nox_ok, e_b1, e_b2, e_isi, e_m1, e_lrg, es_nil, es_cons, ea_nil, ea_io, ea_non, ea_bl, ea_int, ea_str, ea_var, ea_gl, ea_bin, ea_neg, ea_nt, ea_an, ea_or, ea_cmp, ea_chn, ea_ite, ea_lst, ea_tup, ea_idx, ea_sl, ea_rev, ea_call, ea_b1, ea_b2, ea_isi, ea_m1, ea_lrg, ea_cp, ea_mv, eo_none, eo_some, ec_none, ec_some, ei_of, ei_r1, ei_r2, x_ex, x_set, x_setT, x_par, x_sto, x_sto2, x_app1, x_augS, x_app, x_rvs, revv_l, revB_l, revB_s, x_aug, x_ret, x_retN, x_ite, x_raise, xh_nil, xh_cons, nxo_rt, nxo_nx, x_pass, x_brk, x_cnt, xs_nil, xs_cons, bop_add, bop_sub, bop_mul, bop_fdiv, bop_mod, bop_pow, bop_addl, bop_adds, bop_mull, bop_muls, aop_add, aop_sub, cop_eqi, cop_nei, cop_eqs, cop_nes, cop_eqb, cop_lt, cop_le, cop_gt, cop_ge, cop_lts, cop_les, cop_is, cop_isn, b1_lenl, b1_lent, b1_lens, b1_sum, b1_abs, b1_list, b1_listt, b1_lists, b1_tuple, idx_l, idxL_l, idx_t, idx_s, truth_bl, truth_int, truth_lst, truth_tup, truth_str, truth_non, at_nil, on_nil, items0, items1, items2, items3, set_nm, set_tp, sm_nil, sm_cons, av_nil', av_cons, avg_v, avg_io, pb_nil, pb_io, pb_v, hb_nil, hb_v, hb_io, do_call, hk_l, hk_t, hk_s, hk_i, hk_b, hk_n, fins_nil, fins_cons, b2_min, b2_max, cop_neb, slc_l, slc_s, slc_t, mty_join, mty_lindex, mty_sindex, mty_split, mty_scount, isTy_list, isTy_tuple, isTy_str, isTy_int, isTy_bi, e_sortR, e_xmin, on_slot, grd_pos, x_ext, out_rt, out_nx, out_ex, out1_rt, out1_nx, out1_ex, ex_nx, List.set_cons_zero, List.set_cons_succ, List.reverse_cons, List.reverse_nil, List.nil_append, List.cons_append, Option.map_some, Option.map_none, Bool.not_true, Bool.not_false, decide_true, decide_false, if_true, if_false, Bool.false_eq_true, Bool.true_and, Bool.and_true, Bool.false_and, Bool.and_false, Bool.true_or, Bool.or_true, Bool.false_or, Bool.or_false, not_true_eq_false, not_false_eq_true, and_true, true_and, PV.lf, PV.isNon, storeV, List.length_cons, List.length_nil, List.length_map, List.isEmpty_cons, List.isEmpty_nil, and_self, Int.natCast_zero, Bool.not_not, Nat.zero_add, Int.cast_ofNat_Int, Int.reduceLT, Int.reduceLE, Int.reduceAdd, Int.reduceSub, Int.reduceMul, Int.reduceNeg, Int.reduceBEq, Int.reduceBNe, Int.reduceDiv, Int.reduceMod, Int.reduceEq, Int.reduceToNat, Nat.reduceAdd, Nat.reduceLT, Nat.reduceLeDiff, reduceIte, Nat.reduceEqDiff, reduceCtorEq, Nat.reduceMul, Nat.reduceSub, Nat.reduceBEq, List.reduceReplicate, Int.reduceGT, Int.reduceGE, pix_0, pix_1, pix_2, pix_3, List.map_cons, List.map_nil, beq_self_eq_true, bne_self_eq_false, e_mv, xit0, xit1, hl, e1, hc]
theorem fn_run {C : Calls} {row : List Nat} {v : PV} (h2 : C 2 [.str row, .str [48, 49], .int 15, .int 15] = .ok (.bl true) []) (h12 : C 12 [.str row] = .ok v []) : runF f_format_named C [.str row] = .ok v [] := by
  refine (runF0 (vs := [.str row]) rfl).trans ?_
  show outF0 (exSs C xfn [some (.str row)]) = _
  unfold xfn
  simp -implicitDefEqProofs only [R.bind_ok', R.bind_ex', R.of_some, R.then_ok, R.then_ex, O.then_nx, O.then_rt, O.then_ex, O.then_ct, O.then_bk, getV0, getVs, tst_ok, tst_ex, R.of_none, e_non, e_bl, e_int, e_str, e_var, e_bv, e_gl, e_bin, e_neg, e_nt, e_an, e_or, e_cmp, e_chn, e_ite, e_lst, e_tup, e_idx, e_sl, e_rev, e_call, e_call0, e_callv, nox_ok, e_b1, e_b2, e_isi, e_m1, e_lrg, es_nil, es_cons, ea_nil, ea_io, ea_non, ea_bl, ea_int, ea_str, ea_var, ea_gl, ea_bin, ea_neg, ea_nt, ea_an, ea_or, ea_cmp, ea_chn, ea_ite, ea_lst, ea_tup, ea_idx, ea_sl, ea_rev, ea_call, ea_b1, ea_b2, ea_isi, ea_m1, ea_lrg, ea_cp, ea_mv, eo_none, eo_some, ec_none, ec_some, ei_of, ei_r1, ei_r2, x_ex, x_set, x_setT, x_par, x_sto, x_sto2, x_app1, x_augS, x_app, x_rvs, revv_l, revB_l, revB_s, x_aug, x_ret, x_retN, x_ite, x_raise, xh_nil, xh_cons, nxo_rt, nxo_nx, x_pass, x_brk, x_cnt, xs_nil, xs_cons, bop_add, bop_sub, bop_mul, bop_fdiv, bop_mod, bop_pow, bop_addl, bop_adds, bop_mull, bop_muls, aop_add, aop_sub, cop_eqi, cop_nei, cop_eqs, cop_nes, cop_eqb, cop_lt, cop_le, cop_gt, cop_ge, cop_lts, cop_les, cop_is, cop_isn, b1_lenl, b1_lent, b1_lens, b1_sum, b1_abs, b1_list, b1_listt, b1_lists, b1_tuple, idx_l, idxL_l, idx_t, idx_s, truth_bl, truth_int, truth_lst, truth_tup, truth_str, truth_non, at_nil, on_nil, items0, items1, items2, items3, set_nm, set_tp, sm_nil, sm_cons, av_nil', av_cons, avg_v, avg_io, pb_nil, pb_io, pb_v, hb_nil, hb_v, hb_io, do_call, hk_l, hk_t, hk_s, hk_i, hk_b, hk_n, fins_nil, fins_cons, b2_min, b2_max, cop_neb, slc_l, slc_s, slc_t, mty_join, mty_lindex, mty_sindex, mty_split, mty_scount, isTy_list, isTy_tuple, isTy_str, isTy_int, isTy_bi, e_sortR, e_xmin, on_slot, grd_pos, x_ext, out_rt, out_nx, out_ex, out1_rt, out1_nx, out1_ex, ex_nx, List.set_cons_zero, List.set_cons_succ, List.reverse_cons, List.reverse_nil, List.nil_append, List.cons_append, Option.map_some, Option.map_none, Bool.not_true, Bool.not_false, decide_true, decide_false, if_true, if_false, Bool.false_eq_true, Bool.true_and, Bool.and_true, Bool.false_and, Bool.and_false, Bool.true_or, Bool.or_true, Bool.false_or, Bool.or_false, not_true_eq_false, not_false_eq_true, and_true, true_and, PV.lf, PV.isNon, storeV, List.length_cons, List.length_nil, List.length_map, List.isEmpty_cons, List.isEmpty_nil, and_self, Int.natCast_zero, Bool.not_not, Nat.zero_add, Int.cast_ofNat_Int, Int.reduceLT, Int.reduceLE, Int.reduceAdd, Int.reduceSub, Int.reduceMul, Int.reduceNeg, Int.reduceBEq, Int.reduceBNe, Int.reduceDiv, Int.reduceMod, Int.reduceEq, Int.reduceToNat, Nat.reduceAdd, Nat.reduceLT, Nat.reduceLeDiff, reduceIte, Nat.reduceEqDiff, reduceCtorEq, Nat.reduceMul, Nat.reduceSub, Nat.reduceBEq, List.reduceReplicate, Int.reduceGT, Int.reduceGE, pix_0, pix_1, pix_2, pix_3, List.map_cons, List.map_nil, beq_self_eq_true, bne_self_eq_false, e_mv, xfn0, xfn1, h2, h12]
theorem wd_good {i : Nat} (h : i < 32) : G01 (wd i) := by
  have := List.all_eq_true.mp wd15 i (List.mem_range.mpr h)
  rw [Bool.and_eq_true] at this
  refine ⟨of_decide_eq_true this.1, fun c hc => ?_⟩
  have := List.all_eq_true.mp this.2 c hc
  simpa using this
structure Cs (C : Calls) : Prop where
  D : Draw2At C 16
  h21 : C 21 [] = .ok (.lst ALL) []
  h10 : ∀ i, i < 32 → C 10 [.str [lvl i], .int (i % 8 : Nat)] = .ok (.str (wd i)) []
  fn : ∀ s, G01 s → ∃ v, C 13 [.str s] = .ok v [] ∧ C 22 [.str s] = .ok v [] ∧ C 17 [v, v] = .ok (.bl true) []
  h20 : ∀ i j, i < 32 → j < 32 → C 20 [.str (wd i).reverse, .str (wd j)] = .ok (.int (hd (wd i).reverse (wd j) : Nat)) []
  eq : ∀ s, C 17 [.str s, .str s] = .ok (.bl true) []
  bad1 : ∀ b, b ∈ BAD1 → C 13 [b] = .ex 1 []
  bad2 : ∀ p, p ∈ BAD2 → C 10 [p.1, p.2] = .ex 2 []
theorem pl_NV (d : Nat → Nat) (a b : Nat) : Pl 2 (NV d a b) := by
  unfold NV
  split
  · exact .non
  · refine .tup (by show 4 ≤ 16777216; omega) fun y hy => ?_
    simp only [List.mem_cons, List.not_mem_nil, or_false] at hy
    rcases hy with rfl | rfl | rfl | rfl
    · exact .str
    · exact .str
    · exact .int
    · exact .int
theorem cs24 : Cs (callF T 24) := {
  D := draw_at 22
  h21 := f21a
  h10 := fun i hi => okIs_eq (List.all_eq_true.mp f10 i (List.mem_range.mpr hi))
  fn := fun s hs => by
    obtain ⟨a, b, r, s1, s2, s3, s4⟩ := srt32 fun i => hd s (wd i)
    have S : Srt (fun i => hd s (wd i)) a b r := ⟨s1, s2, s3, s4⟩
    refine ⟨NV (fun i => hd s (wd i)) a b, ?_, ?_, eq_at (pl_NV _ _ _) (by decide)⟩
    · refine (lv13 23 _).trans (fn_run ((lv2 22 _).trans (it_good _ hs)) ((lv12 22 _).trans (near_run (fun i hi => (lv11 21 _).trans (ap_run hs.1 (wd_good hi).1)) (fun j m hj hm => ?_) S)))
      exact okIs_eq (List.all_eq_true.mp (List.all_eq_true.mp f9 j (List.mem_range.mpr hj)) m (List.mem_range.mpr hm))
    · exact (lv22 23 _).trans (named_run f21b (fun i hi => (lv20 22 _).trans (la_run hs.1 (wd_good hi).1)) S)
  h20 := fun i j hi hj => (lv20 23 _).trans (la_run (by rw [List.length_reverse]; exact (wd_good hi).1) (wd_good hj).1)
  eq := fun s => eq_at (d := 0) .str (by decide)
  bad1 := fun b hb => exIs_eq (List.all_eq_true.mp f13 b hb)
  bad2 := fun p hp => exIs_eq (List.all_eq_true.mp f10b p hp) }
end My

namespace My
open Ev Ev.Pre
theorem cutA {s : List Nat} {k : Nat} (h : k ≤ s.length) : cut s none (some (k : Int)) = s.take k := by
  show ((s.drop 0).take ((if (k : Int) < 0 then ((k : Int) + s.length).toNat else min (k : Int).toNat s.length) - 0)) = _
  rw [if_neg (by omega), Int.toNat_natCast, Nat.min_eq_left h, Nat.sub_zero, List.drop_zero]
theorem cutB {s : List Nat} {k : Nat} (h : k + 1 ≤ s.length) : cut s (some ((k : Int) + 1)) none = s.drop (k + 1) := by
  show ((s.drop (if (k : Int) + 1 < 0 then ((k : Int) + 1 + s.length).toNat else min ((k : Int) + 1).toNat s.length)).take (s.length - (if (k : Int) + 1 < 0 then ((k : Int) + 1 + s.length).toNat else min ((k : Int) + 1).toNat s.length))) = _
  rw [if_neg (by omega), show ((k : Int) + 1).toNat = k + 1 by omega, Nat.min_eq_left h, List.take_of_length_le (by rw [List.length_drop]; omega)]
theorem adds_ok {x y : List Nat} (h : x.length + y.length ≤ 1000) : bop .add (.str x) (.str y) = some (.str (x ++ y)) := grd_pos (by show _ ≤ 16777216; omega)
def flp (s : List Nat) (k : Nat) : List Nat := s.take k ++ [if s.getD k 0 = 48 then 49 else 48] ++ s.drop (k + 1)
theorem flp_good {s : List Nat} (h : G01 s) {k : Nat} (hk : k < 15) : G01 (flp s k) := by
  obtain ⟨hl, h2⟩ := h
  unfold flp
  refine ⟨?_, fun c hc => ?_⟩
  · simp [hl]
    omega
  · rw [List.mem_append, List.mem_append] at hc
    rcases hc with (hc | hc) | hc
    · exact h2 c (List.mem_of_mem_take hc)
    · rw [List.mem_singleton] at hc
      split at hc
      · exact .inr hc
      · exact .inl hc
    · exact h2 c (List.mem_of_mem_drop hc)
theorem flip_turn {C : Calls} (hC : Cs C) (sc : PV) {d : PV} (D : Draws d) (w lv : List Nat) (m : Int) {s : List Nat} (h : G01 s) (o5 o7 o8 : Option PV) (x : PV) : ∃ d' s' o8', bodyF C (.nm 7) xl3b1b x [some sc, some d, some (.str w), some (.str lv), some (.int m), o5, some (.str s), o7, o8, none, none, none] = .nx [some sc, some d', some (.str w), some (.str lv), some (.int m), o5, some (.str s'), some x, o8', none, none, none] ∧ Draws d' ∧ G01 s' := by
  obtain ⟨r1, d1, c, a1, a2, D1⟩ := hC.D d D 15 (by decide)
  obtain ⟨k, rfl⟩ : ∃ k : Nat, r1 = (k : Int) := ⟨r1.toNat, by omega⟩
  have hk : k < 15 := by omega
  have hl := h.1
  refine ⟨d1, flp s k, some (.int (k : Nat)), ?_, D1, flp_good h hk⟩
  have s0 : exS C xl3b1b0 [some sc, some d, some (.str w), some (.str lv), some (.int m), o5, some (.str s), some x, o8, none, none, none] = .nx [some sc, some d1, some (.str w), some (.str lv), some (.int m), o5, some (.str s), some x, some (.int (k : Nat)), none, none, none] := by
    simp -implicitDefEqProofs only [R.bind_ok', R.bind_ex', R.of_some, R.then_ok, R.then_ex, O.then_nx, O.then_rt, O.then_ex, O.then_ct, O.then_bk, getV0, getVs, tst_ok, tst_ex, R.of_none, e_non, e_bl, e_int, e_str, e_var, e_bv, e_gl, e_bin, e_neg, e_nt, e_an, e_or, e_cmp, e_chn, e_ite, e_lst, e_tup, e_idx, e_sl, e_rev, e_call, e_call0, e_callv, nox_ok, e_b1, e_b2, e_isi, e_m1, e_lrg, es_nil, es_cons, ea_nil, ea_io, ea_non, ea_bl, ea_int, ea_str, ea_var, ea_gl, ea_bin, ea_neg, ea_nt, ea_an, ea_or, ea_cmp, ea_chn, ea_ite, ea_lst, ea_tup, ea_idx, ea_sl, ea_rev, ea_call, ea_b1, ea_b2, ea_isi, ea_m1, ea_lrg, ea_cp, ea_mv, eo_none, eo_some, ec_none, ec_some, ei_of, ei_r1, ei_r2, x_ex, x_set, x_setT, x_par, x_sto, x_sto2, x_app1, x_augS, x_app, x_rvs, revv_l, revB_l, revB_s, x_aug, x_ret, x_retN, x_ite, x_raise, xh_nil, xh_cons, nxo_rt, nxo_nx, x_pass, x_brk, x_cnt, xs_nil, xs_cons, bop_add, bop_sub, bop_mul, bop_fdiv, bop_mod, bop_pow, bop_addl, bop_adds, bop_mull, bop_muls, aop_add, aop_sub, cop_eqi, cop_nei, cop_eqs, cop_nes, cop_eqb, cop_lt, cop_le, cop_gt, cop_ge, cop_lts, cop_les, cop_is, cop_isn, b1_lenl, b1_lent, b1_lens, b1_sum, b1_abs, b1_list, b1_listt, b1_lists, b1_tuple, idx_l, idxL_l, idx_t, idx_s, truth_bl, truth_int, truth_lst, truth_tup, truth_str, truth_non, at_nil, on_nil, items0, items1, items2, items3, set_nm, set_tp, sm_nil, sm_cons, av_nil', av_cons, avg_v, avg_io, pb_nil, pb_io, pb_v, hb_nil, hb_v, hb_io, do_call, hk_l, hk_t, hk_s, hk_i, hk_b, hk_n, fins_nil, fins_cons, b2_min, b2_max, cop_neb, slc_l, slc_s, slc_t, mty_join, mty_lindex, mty_sindex, mty_split, mty_scount, isTy_list, isTy_tuple, isTy_str, isTy_int, isTy_bi, e_sortR, e_xmin, on_slot, grd_pos, x_ext, out_rt, out_nx, out_ex, out1_rt, out1_nx, out1_ex, ex_nx, List.set_cons_zero, List.set_cons_succ, List.reverse_cons, List.reverse_nil, List.nil_append, List.cons_append, Option.map_some, Option.map_none, Bool.not_true, Bool.not_false, decide_true, decide_false, if_true, if_false, Bool.false_eq_true, Bool.true_and, Bool.and_true, Bool.false_and, Bool.and_false, Bool.true_or, Bool.or_true, Bool.false_or, Bool.or_false, not_true_eq_false, not_false_eq_true, and_true, true_and, PV.lf, PV.isNon, storeV, List.length_cons, List.length_nil, List.length_map, List.isEmpty_cons, List.isEmpty_nil, and_self, Int.natCast_zero, Bool.not_not, Nat.zero_add, Int.cast_ofNat_Int, Int.reduceLT, Int.reduceLE, Int.reduceAdd, Int.reduceSub, Int.reduceMul, Int.reduceNeg, Int.reduceBEq, Int.reduceBNe, Int.reduceDiv, Int.reduceMod, Int.reduceEq, Int.reduceToNat, Nat.reduceAdd, Nat.reduceLT, Nat.reduceLeDiff, reduceIte, Nat.reduceEqDiff, reduceCtorEq, Nat.reduceMul, Nat.reduceSub, Nat.reduceBEq, List.reduceReplicate, Int.reduceGT, Int.reduceGE, pix_0, pix_1, pix_2, pix_3, List.map_cons, List.map_nil, beq_self_eq_true, bne_self_eq_false, e_mv, xl3b1b0, c]
  have p := pix_s (a := s) (k := k) (by omega)
  have kA := cutA (s := s) (k := k) (by omega)
  have kB := cutB (s := s) (k := k) (by omega)
  have n1 : bop .add (.str (s.take k)) (.str [if s.getD k 0 = 48 then 49 else 48]) = some (.str (s.take k ++ [if s.getD k 0 = 48 then 49 else 48])) := adds_ok (by simp; omega)
  have n2 : bop .add (.str (s.take k ++ [if s.getD k 0 = 48 then 49 else 48])) (.str (s.drop (k + 1))) = some (.str (flp s k)) := adds_ok (by simp; omega)
  have e2 : evE C (.ite (.cmp .eq (.idx (.var 6) (.var 8)) (.str [48])) (.str [49]) (.str [48])) [some sc, some d1, some (.str w), some (.str lv), some (.int m), o5, some (.str s), some x, some (.int (k : Nat)), none, none, none] = .ok (.str [if s.getD k 0 = 48 then 49 else 48]) [some sc, some d1, some (.str w), some (.str lv), some (.int m), o5, some (.str s), some x, some (.int (k : Nat)), none, none, none] := by
    by_cases q : s.getD k 0 = 48
    · rw [if_pos q]
      rw [q] at p
      have ce : cop .eq (.str [48]) (.str [48]) = some true := rfl
      simp -implicitDefEqProofs only [R.bind_ok', R.bind_ex', R.of_some, R.then_ok, R.then_ex, O.then_nx, O.then_rt, O.then_ex, O.then_ct, O.then_bk, getV0, getVs, tst_ok, tst_ex, R.of_none, e_non, e_bl, e_int, e_str, e_var, e_bv, e_gl, e_bin, e_neg, e_nt, e_an, e_or, e_cmp, e_chn, e_ite, e_lst, e_tup, e_idx, e_sl, e_rev, e_call, e_call0, e_callv, nox_ok, e_b1, e_b2, e_isi, e_m1, e_lrg, es_nil, es_cons, ea_nil, ea_io, ea_non, ea_bl, ea_int, ea_str, ea_var, ea_gl, ea_bin, ea_neg, ea_nt, ea_an, ea_or, ea_cmp, ea_chn, ea_ite, ea_lst, ea_tup, ea_idx, ea_sl, ea_rev, ea_call, ea_b1, ea_b2, ea_isi, ea_m1, ea_lrg, ea_cp, ea_mv, eo_none, eo_some, ec_none, ec_some, ei_of, ei_r1, ei_r2, x_ex, x_set, x_setT, x_par, x_sto, x_sto2, x_app1, x_augS, x_app, x_rvs, revv_l, revB_l, revB_s, x_aug, x_ret, x_retN, x_ite, x_raise, xh_nil, xh_cons, nxo_rt, nxo_nx, x_pass, x_brk, x_cnt, xs_nil, xs_cons, bop_add, bop_sub, bop_mul, bop_fdiv, bop_mod, bop_pow, bop_addl, bop_adds, bop_mull, bop_muls, aop_add, aop_sub, cop_eqi, cop_nei, cop_eqs, cop_nes, cop_eqb, cop_lt, cop_le, cop_gt, cop_ge, cop_lts, cop_les, cop_is, cop_isn, b1_lenl, b1_lent, b1_lens, b1_sum, b1_abs, b1_list, b1_listt, b1_lists, b1_tuple, idx_l, idxL_l, idx_t, idx_s, truth_bl, truth_int, truth_lst, truth_tup, truth_str, truth_non, at_nil, on_nil, items0, items1, items2, items3, set_nm, set_tp, sm_nil, sm_cons, av_nil', av_cons, avg_v, avg_io, pb_nil, pb_io, pb_v, hb_nil, hb_v, hb_io, do_call, hk_l, hk_t, hk_s, hk_i, hk_b, hk_n, fins_nil, fins_cons, b2_min, b2_max, cop_neb, slc_l, slc_s, slc_t, mty_join, mty_lindex, mty_sindex, mty_split, mty_scount, isTy_list, isTy_tuple, isTy_str, isTy_int, isTy_bi, e_sortR, e_xmin, on_slot, grd_pos, x_ext, out_rt, out_nx, out_ex, out1_rt, out1_nx, out1_ex, ex_nx, List.set_cons_zero, List.set_cons_succ, List.reverse_cons, List.reverse_nil, List.nil_append, List.cons_append, Option.map_some, Option.map_none, Bool.not_true, Bool.not_false, decide_true, decide_false, if_true, if_false, Bool.false_eq_true, Bool.true_and, Bool.and_true, Bool.false_and, Bool.and_false, Bool.true_or, Bool.or_true, Bool.false_or, Bool.or_false, not_true_eq_false, not_false_eq_true, and_true, true_and, PV.lf, PV.isNon, storeV, List.length_cons, List.length_nil, List.length_map, List.isEmpty_cons, List.isEmpty_nil, and_self, Int.natCast_zero, Bool.not_not, Nat.zero_add, Int.cast_ofNat_Int, Int.reduceLT, Int.reduceLE, Int.reduceAdd, Int.reduceSub, Int.reduceMul, Int.reduceNeg, Int.reduceBEq, Int.reduceBNe, Int.reduceDiv, Int.reduceMod, Int.reduceEq, Int.reduceToNat, Nat.reduceAdd, Nat.reduceLT, Nat.reduceLeDiff, reduceIte, Nat.reduceEqDiff, reduceCtorEq, Nat.reduceMul, Nat.reduceSub, Nat.reduceBEq, List.reduceReplicate, Int.reduceGT, Int.reduceGE, pix_0, pix_1, pix_2, pix_3, List.map_cons, List.map_nil, beq_self_eq_true, bne_self_eq_false, e_mv, p, ce]
    · rw [if_neg q]
      generalize s.getD k 0 = z at p q
      have ce : cop .eq (.str [z]) (.str [48]) = some false := by
        show some _ = _
        simp [PV.eqv, q]
      simp -implicitDefEqProofs only [R.bind_ok', R.bind_ex', R.of_some, R.then_ok, R.then_ex, O.then_nx, O.then_rt, O.then_ex, O.then_ct, O.then_bk, getV0, getVs, tst_ok, tst_ex, R.of_none, e_non, e_bl, e_int, e_str, e_var, e_bv, e_gl, e_bin, e_neg, e_nt, e_an, e_or, e_cmp, e_chn, e_ite, e_lst, e_tup, e_idx, e_sl, e_rev, e_call, e_call0, e_callv, nox_ok, e_b1, e_b2, e_isi, e_m1, e_lrg, es_nil, es_cons, ea_nil, ea_io, ea_non, ea_bl, ea_int, ea_str, ea_var, ea_gl, ea_bin, ea_neg, ea_nt, ea_an, ea_or, ea_cmp, ea_chn, ea_ite, ea_lst, ea_tup, ea_idx, ea_sl, ea_rev, ea_call, ea_b1, ea_b2, ea_isi, ea_m1, ea_lrg, ea_cp, ea_mv, eo_none, eo_some, ec_none, ec_some, ei_of, ei_r1, ei_r2, x_ex, x_set, x_setT, x_par, x_sto, x_sto2, x_app1, x_augS, x_app, x_rvs, revv_l, revB_l, revB_s, x_aug, x_ret, x_retN, x_ite, x_raise, xh_nil, xh_cons, nxo_rt, nxo_nx, x_pass, x_brk, x_cnt, xs_nil, xs_cons, bop_add, bop_sub, bop_mul, bop_fdiv, bop_mod, bop_pow, bop_addl, bop_adds, bop_mull, bop_muls, aop_add, aop_sub, cop_eqi, cop_nei, cop_eqs, cop_nes, cop_eqb, cop_lt, cop_le, cop_gt, cop_ge, cop_lts, cop_les, cop_is, cop_isn, b1_lenl, b1_lent, b1_lens, b1_sum, b1_abs, b1_list, b1_listt, b1_lists, b1_tuple, idx_l, idxL_l, idx_t, idx_s, truth_bl, truth_int, truth_lst, truth_tup, truth_str, truth_non, at_nil, on_nil, items0, items1, items2, items3, set_nm, set_tp, sm_nil, sm_cons, av_nil', av_cons, avg_v, avg_io, pb_nil, pb_io, pb_v, hb_nil, hb_v, hb_io, do_call, hk_l, hk_t, hk_s, hk_i, hk_b, hk_n, fins_nil, fins_cons, b2_min, b2_max, cop_neb, slc_l, slc_s, slc_t, mty_join, mty_lindex, mty_sindex, mty_split, mty_scount, isTy_list, isTy_tuple, isTy_str, isTy_int, isTy_bi, e_sortR, e_xmin, on_slot, grd_pos, x_ext, out_rt, out_nx, out_ex, out1_rt, out1_nx, out1_ex, ex_nx, List.set_cons_zero, List.set_cons_succ, List.reverse_cons, List.reverse_nil, List.nil_append, List.cons_append, Option.map_some, Option.map_none, Bool.not_true, Bool.not_false, decide_true, decide_false, if_true, if_false, Bool.false_eq_true, Bool.true_and, Bool.and_true, Bool.false_and, Bool.and_false, Bool.true_or, Bool.or_true, Bool.false_or, Bool.or_false, not_true_eq_false, not_false_eq_true, and_true, true_and, PV.lf, PV.isNon, storeV, List.length_cons, List.length_nil, List.length_map, List.isEmpty_cons, List.isEmpty_nil, and_self, Int.natCast_zero, Bool.not_not, Nat.zero_add, Int.cast_ofNat_Int, Int.reduceLT, Int.reduceLE, Int.reduceAdd, Int.reduceSub, Int.reduceMul, Int.reduceNeg, Int.reduceBEq, Int.reduceBNe, Int.reduceDiv, Int.reduceMod, Int.reduceEq, Int.reduceToNat, Nat.reduceAdd, Nat.reduceLT, Nat.reduceLeDiff, reduceIte, Nat.reduceEqDiff, reduceCtorEq, Nat.reduceMul, Nat.reduceSub, Nat.reduceBEq, List.reduceReplicate, Int.reduceGT, Int.reduceGE, pix_0, pix_1, pix_2, pix_3, List.map_cons, List.map_nil, beq_self_eq_true, bne_self_eq_false, e_mv, p, ce]
  have e1 : evE C (.sl (.var 6) none (some (.var 8))) [some sc, some d1, some (.str w), some (.str lv), some (.int m), o5, some (.str s), some x, some (.int (k : Nat)), none, none, none] = .ok (.str (s.take k)) [some sc, some d1, some (.str w), some (.str lv), some (.int m), o5, some (.str s), some x, some (.int (k : Nat)), none, none, none] := by
    simp -implicitDefEqProofs only [R.bind_ok', R.bind_ex', R.of_some, R.then_ok, R.then_ex, O.then_nx, O.then_rt, O.then_ex, O.then_ct, O.then_bk, getV0, getVs, tst_ok, tst_ex, R.of_none, e_non, e_bl, e_int, e_str, e_var, e_bv, e_gl, e_bin, e_neg, e_nt, e_an, e_or, e_cmp, e_chn, e_ite, e_lst, e_tup, e_idx, e_sl, e_rev, e_call, e_call0, e_callv, nox_ok, e_b1, e_b2, e_isi, e_m1, e_lrg, es_nil, es_cons, ea_nil, ea_io, ea_non, ea_bl, ea_int, ea_str, ea_var, ea_gl, ea_bin, ea_neg, ea_nt, ea_an, ea_or, ea_cmp, ea_chn, ea_ite, ea_lst, ea_tup, ea_idx, ea_sl, ea_rev, ea_call, ea_b1, ea_b2, ea_isi, ea_m1, ea_lrg, ea_cp, ea_mv, eo_none, eo_some, ec_none, ec_some, ei_of, ei_r1, ei_r2, x_ex, x_set, x_setT, x_par, x_sto, x_sto2, x_app1, x_augS, x_app, x_rvs, revv_l, revB_l, revB_s, x_aug, x_ret, x_retN, x_ite, x_raise, xh_nil, xh_cons, nxo_rt, nxo_nx, x_pass, x_brk, x_cnt, xs_nil, xs_cons, bop_add, bop_sub, bop_mul, bop_fdiv, bop_mod, bop_pow, bop_addl, bop_adds, bop_mull, bop_muls, aop_add, aop_sub, cop_eqi, cop_nei, cop_eqs, cop_nes, cop_eqb, cop_lt, cop_le, cop_gt, cop_ge, cop_lts, cop_les, cop_is, cop_isn, b1_lenl, b1_lent, b1_lens, b1_sum, b1_abs, b1_list, b1_listt, b1_lists, b1_tuple, idx_l, idxL_l, idx_t, idx_s, truth_bl, truth_int, truth_lst, truth_tup, truth_str, truth_non, at_nil, on_nil, items0, items1, items2, items3, set_nm, set_tp, sm_nil, sm_cons, av_nil', av_cons, avg_v, avg_io, pb_nil, pb_io, pb_v, hb_nil, hb_v, hb_io, do_call, hk_l, hk_t, hk_s, hk_i, hk_b, hk_n, fins_nil, fins_cons, b2_min, b2_max, cop_neb, slc_l, slc_s, slc_t, mty_join, mty_lindex, mty_sindex, mty_split, mty_scount, isTy_list, isTy_tuple, isTy_str, isTy_int, isTy_bi, e_sortR, e_xmin, on_slot, grd_pos, x_ext, out_rt, out_nx, out_ex, out1_rt, out1_nx, out1_ex, ex_nx, List.set_cons_zero, List.set_cons_succ, List.reverse_cons, List.reverse_nil, List.nil_append, List.cons_append, Option.map_some, Option.map_none, Bool.not_true, Bool.not_false, decide_true, decide_false, if_true, if_false, Bool.false_eq_true, Bool.true_and, Bool.and_true, Bool.false_and, Bool.and_false, Bool.true_or, Bool.or_true, Bool.false_or, Bool.or_false, not_true_eq_false, not_false_eq_true, and_true, true_and, PV.lf, PV.isNon, storeV, List.length_cons, List.length_nil, List.length_map, List.isEmpty_cons, List.isEmpty_nil, and_self, Int.natCast_zero, Bool.not_not, Nat.zero_add, Int.cast_ofNat_Int, Int.reduceLT, Int.reduceLE, Int.reduceAdd, Int.reduceSub, Int.reduceMul, Int.reduceNeg, Int.reduceBEq, Int.reduceBNe, Int.reduceDiv, Int.reduceMod, Int.reduceEq, Int.reduceToNat, Nat.reduceAdd, Nat.reduceLT, Nat.reduceLeDiff, reduceIte, Nat.reduceEqDiff, reduceCtorEq, Nat.reduceMul, Nat.reduceSub, Nat.reduceBEq, List.reduceReplicate, Int.reduceGT, Int.reduceGE, pix_0, pix_1, pix_2, pix_3, List.map_cons, List.map_nil, beq_self_eq_true, bne_self_eq_false, e_mv, kA]
  have e3 : evE C (.sl (.var 6) (some (.bin .add (.var 8) (.int 1))) none) [some sc, some d1, some (.str w), some (.str lv), some (.int m), o5, some (.str s), some x, some (.int (k : Nat)), none, none, none] = .ok (.str (s.drop (k + 1))) [some sc, some d1, some (.str w), some (.str lv), some (.int m), o5, some (.str s), some x, some (.int (k : Nat)), none, none, none] := by
    simp -implicitDefEqProofs only [R.bind_ok', R.bind_ex', R.of_some, R.then_ok, R.then_ex, O.then_nx, O.then_rt, O.then_ex, O.then_ct, O.then_bk, getV0, getVs, tst_ok, tst_ex, R.of_none, e_non, e_bl, e_int, e_str, e_var, e_bv, e_gl, e_bin, e_neg, e_nt, e_an, e_or, e_cmp, e_chn, e_ite, e_lst, e_tup, e_idx, e_sl, e_rev, e_call, e_call0, e_callv, nox_ok, e_b1, e_b2, e_isi, e_m1, e_lrg, es_nil, es_cons, ea_nil, ea_io, ea_non, ea_bl, ea_int, ea_str, ea_var, ea_gl, ea_bin, ea_neg, ea_nt, ea_an, ea_or, ea_cmp, ea_chn, ea_ite, ea_lst, ea_tup, ea_idx, ea_sl, ea_rev, ea_call, ea_b1, ea_b2, ea_isi, ea_m1, ea_lrg, ea_cp, ea_mv, eo_none, eo_some, ec_none, ec_some, ei_of, ei_r1, ei_r2, x_ex, x_set, x_setT, x_par, x_sto, x_sto2, x_app1, x_augS, x_app, x_rvs, revv_l, revB_l, revB_s, x_aug, x_ret, x_retN, x_ite, x_raise, xh_nil, xh_cons, nxo_rt, nxo_nx, x_pass, x_brk, x_cnt, xs_nil, xs_cons, bop_add, bop_sub, bop_mul, bop_fdiv, bop_mod, bop_pow, bop_addl, bop_adds, bop_mull, bop_muls, aop_add, aop_sub, cop_eqi, cop_nei, cop_eqs, cop_nes, cop_eqb, cop_lt, cop_le, cop_gt, cop_ge, cop_lts, cop_les, cop_is, cop_isn, b1_lenl, b1_lent, b1_lens, b1_sum, b1_abs, b1_list, b1_listt, b1_lists, b1_tuple, idx_l, idxL_l, idx_t, idx_s, truth_bl, truth_int, truth_lst, truth_tup, truth_str, truth_non, at_nil, on_nil, items0, items1, items2, items3, set_nm, set_tp, sm_nil, sm_cons, av_nil', av_cons, avg_v, avg_io, pb_nil, pb_io, pb_v, hb_nil, hb_v, hb_io, do_call, hk_l, hk_t, hk_s, hk_i, hk_b, hk_n, fins_nil, fins_cons, b2_min, b2_max, cop_neb, slc_l, slc_s, slc_t, mty_join, mty_lindex, mty_sindex, mty_split, mty_scount, isTy_list, isTy_tuple, isTy_str, isTy_int, isTy_bi, e_sortR, e_xmin, on_slot, grd_pos, x_ext, out_rt, out_nx, out_ex, out1_rt, out1_nx, out1_ex, ex_nx, List.set_cons_zero, List.set_cons_succ, List.reverse_cons, List.reverse_nil, List.nil_append, List.cons_append, Option.map_some, Option.map_none, Bool.not_true, Bool.not_false, decide_true, decide_false, if_true, if_false, Bool.false_eq_true, Bool.true_and, Bool.and_true, Bool.false_and, Bool.and_false, Bool.true_or, Bool.or_true, Bool.false_or, Bool.or_false, not_true_eq_false, not_false_eq_true, and_true, true_and, PV.lf, PV.isNon, storeV, List.length_cons, List.length_nil, List.length_map, List.isEmpty_cons, List.isEmpty_nil, and_self, Int.natCast_zero, Bool.not_not, Nat.zero_add, Int.cast_ofNat_Int, Int.reduceLT, Int.reduceLE, Int.reduceAdd, Int.reduceSub, Int.reduceMul, Int.reduceNeg, Int.reduceBEq, Int.reduceBNe, Int.reduceDiv, Int.reduceMod, Int.reduceEq, Int.reduceToNat, Nat.reduceAdd, Nat.reduceLT, Nat.reduceLeDiff, reduceIte, Nat.reduceEqDiff, reduceCtorEq, Nat.reduceMul, Nat.reduceSub, Nat.reduceBEq, List.reduceReplicate, Int.reduceGT, Int.reduceGE, pix_0, pix_1, pix_2, pix_3, List.map_cons, List.map_nil, beq_self_eq_true, bne_self_eq_false, e_mv, kB]
  have s1 : exS C xl3b1b1 [some sc, some d1, some (.str w), some (.str lv), some (.int m), o5, some (.str s), some x, some (.int (k : Nat)), none, none, none] = .nx [some sc, some d1, some (.str w), some (.str lv), some (.int m), o5, some (.str (flp s k)), some x, some (.int (k : Nat)), none, none, none] := by
    unfold xl3b1b1
    rw [x_set, e_bin, e_bin, e1, R.bind_ok', e2, R.bind_ok', n1, R.of_some, R.bind_ok', e3, R.bind_ok', n2]
    rfl
  unfold bodyF xl3b1b
  show exSs C [xl3b1b0, xl3b1b1] [some sc, some d, some (.str w), some (.str lv), some (.int m), o5, some (.str s), some x, o8, none, none, none] = _
  rw [xs_cons, s0, O.then_nx, xs_cons, s1, O.then_nx, xs_nil]
end My

namespace My
open Ev Ev.Pre
theorem many_turn {C : Calls} (hC : Cs C) (sc : PV) {d : PV} (D : Draws d) {w : List Nat} (lv : List Nat) (m : Int) (hw : G01 w) {q : Nat} (hq : q ≤ 6) (o5 o6 o7 o8 : Option PV) : ∃ d' o6' o7' o8', bodyF C (.nm 5) xl3b (.int (q : Nat)) [some sc, some d, some (.str w), some (.str lv), some (.int m), o5, o6, o7, o8, none, none, none] = .nx [some sc, some d', some (.str w), some (.str lv), some (.int m), some (.int (q : Nat)), o6', o7', o8', none, none, none] ∧ Draws d' := by
  have s0 : exS C xl3b0 [some sc, some d, some (.str w), some (.str lv), some (.int m), some (.int (q : Nat)), o6, o7, o8, none, none, none] = .nx [some sc, some d, some (.str w), some (.str lv), some (.int m), some (.int (q : Nat)), some (.str w), o7, o8, none, none, none] := by
    simp -implicitDefEqProofs only [R.bind_ok', R.bind_ex', R.of_some, R.then_ok, R.then_ex, O.then_nx, O.then_rt, O.then_ex, O.then_ct, O.then_bk, getV0, getVs, tst_ok, tst_ex, R.of_none, e_non, e_bl, e_int, e_str, e_var, e_bv, e_gl, e_bin, e_neg, e_nt, e_an, e_or, e_cmp, e_chn, e_ite, e_lst, e_tup, e_idx, e_sl, e_rev, e_call, e_call0, e_callv, nox_ok, e_b1, e_b2, e_isi, e_m1, e_lrg, es_nil, es_cons, ea_nil, ea_io, ea_non, ea_bl, ea_int, ea_str, ea_var, ea_gl, ea_bin, ea_neg, ea_nt, ea_an, ea_or, ea_cmp, ea_chn, ea_ite, ea_lst, ea_tup, ea_idx, ea_sl, ea_rev, ea_call, ea_b1, ea_b2, ea_isi, ea_m1, ea_lrg, ea_cp, ea_mv, eo_none, eo_some, ec_none, ec_some, ei_of, ei_r1, ei_r2, x_ex, x_set, x_setT, x_par, x_sto, x_sto2, x_app1, x_augS, x_app, x_rvs, revv_l, revB_l, revB_s, x_aug, x_ret, x_retN, x_ite, x_raise, xh_nil, xh_cons, nxo_rt, nxo_nx, x_pass, x_brk, x_cnt, xs_nil, xs_cons, bop_add, bop_sub, bop_mul, bop_fdiv, bop_mod, bop_pow, bop_addl, bop_adds, bop_mull, bop_muls, aop_add, aop_sub, cop_eqi, cop_nei, cop_eqs, cop_nes, cop_eqb, cop_lt, cop_le, cop_gt, cop_ge, cop_lts, cop_les, cop_is, cop_isn, b1_lenl, b1_lent, b1_lens, b1_sum, b1_abs, b1_list, b1_listt, b1_lists, b1_tuple, idx_l, idxL_l, idx_t, idx_s, truth_bl, truth_int, truth_lst, truth_tup, truth_str, truth_non, at_nil, on_nil, items0, items1, items2, items3, set_nm, set_tp, sm_nil, sm_cons, av_nil', av_cons, avg_v, avg_io, pb_nil, pb_io, pb_v, hb_nil, hb_v, hb_io, do_call, hk_l, hk_t, hk_s, hk_i, hk_b, hk_n, fins_nil, fins_cons, b2_min, b2_max, cop_neb, slc_l, slc_s, slc_t, mty_join, mty_lindex, mty_sindex, mty_split, mty_scount, isTy_list, isTy_tuple, isTy_str, isTy_int, isTy_bi, e_sortR, e_xmin, on_slot, grd_pos, x_ext, out_rt, out_nx, out_ex, out1_rt, out1_nx, out1_ex, ex_nx, List.set_cons_zero, List.set_cons_succ, List.reverse_cons, List.reverse_nil, List.nil_append, List.cons_append, Option.map_some, Option.map_none, Bool.not_true, Bool.not_false, decide_true, decide_false, if_true, if_false, Bool.false_eq_true, Bool.true_and, Bool.and_true, Bool.false_and, Bool.and_false, Bool.true_or, Bool.or_true, Bool.false_or, Bool.or_false, not_true_eq_false, not_false_eq_true, and_true, true_and, PV.lf, PV.isNon, storeV, List.length_cons, List.length_nil, List.length_map, List.isEmpty_cons, List.isEmpty_nil, and_self, Int.natCast_zero, Bool.not_not, Nat.zero_add, Int.cast_ofNat_Int, Int.reduceLT, Int.reduceLE, Int.reduceAdd, Int.reduceSub, Int.reduceMul, Int.reduceNeg, Int.reduceBEq, Int.reduceBNe, Int.reduceDiv, Int.reduceMod, Int.reduceEq, Int.reduceToNat, Nat.reduceAdd, Nat.reduceLT, Nat.reduceLeDiff, reduceIte, Nat.reduceEqDiff, reduceCtorEq, Nat.reduceMul, Nat.reduceSub, Nat.reduceBEq, List.reduceReplicate, Int.reduceGT, Int.reduceGE, pix_0, pix_1, pix_2, pix_3, List.map_cons, List.map_nil, beq_self_eq_true, bne_self_eq_false, e_mv, xl3b0]
  obtain ⟨e, g1, d1, s, o7', o8', rfl, D1, hs⟩ := forL_nx (f := bodyF C (.nm 7) xl3b1b) (fun rest env => ∃ d1 s o7 o8, env = [some sc, some d1, some (.str w), some (.str lv), some (.int m), some (.int (q : Nat)), some (.str s), o7, o8, none, none, none] ∧ Draws d1 ∧ G01 s) (fun x rest env ⟨d1, s, o7, o8, he, D1, hs⟩ => by
    subst he
    obtain ⟨d2, s2, o8', t, D2, hs2⟩ := flip_turn hC sc D1 w lv m hs (some (.int (q : Nat))) o7 o8 x
    exact ⟨_, t, d2, s2, some x, o8', rfl, D2, hs2⟩) (rangeI 0 1 q) [some sc, some d, some (.str w), some (.str lv), some (.int m), some (.int (q : Nat)), some (.str w), o7, o8, none, none, none] ⟨d, w, o7, o8, rfl, D, hw⟩
  obtain ⟨v, c13, c22, c17⟩ := hC.fn s hs
  have hi : evI C (.r1 (.var 5)) [some sc, some d, some (.str w), some (.str lv), some (.int m), some (.int (q : Nat)), some (.str w), o7, o8, none, none, none] = .ok (rangeI 0 1 q) [some sc, some d, some (.str w), some (.str lv), some (.int m), some (.int (q : Nat)), some (.str w), o7, o8, none, none, none] := by
    rw [ei_r1_ok (e1 := [some sc, some d, some (.str w), some (.str lv), some (.int m), some (.int (q : Nat)), some (.str w), o7, o8, none, none, none]) (n := q) (by simp -implicitDefEqProofs only [R.bind_ok', R.bind_ex', R.of_some, R.then_ok, R.then_ex, O.then_nx, O.then_rt, O.then_ex, O.then_ct, O.then_bk, getV0, getVs, tst_ok, tst_ex, R.of_none, e_non, e_bl, e_int, e_str, e_var, e_bv, e_gl, e_bin, e_neg, e_nt, e_an, e_or, e_cmp, e_chn, e_ite, e_lst, e_tup, e_idx, e_sl, e_rev, e_call, e_call0, e_callv, nox_ok, e_b1, e_b2, e_isi, e_m1, e_lrg, es_nil, es_cons, ea_nil, ea_io, ea_non, ea_bl, ea_int, ea_str, ea_var, ea_gl, ea_bin, ea_neg, ea_nt, ea_an, ea_or, ea_cmp, ea_chn, ea_ite, ea_lst, ea_tup, ea_idx, ea_sl, ea_rev, ea_call, ea_b1, ea_b2, ea_isi, ea_m1, ea_lrg, ea_cp, ea_mv, eo_none, eo_some, ec_none, ec_some, ei_of, ei_r1, ei_r2, x_ex, x_set, x_setT, x_par, x_sto, x_sto2, x_app1, x_augS, x_app, x_rvs, revv_l, revB_l, revB_s, x_aug, x_ret, x_retN, x_ite, x_raise, xh_nil, xh_cons, nxo_rt, nxo_nx, x_pass, x_brk, x_cnt, xs_nil, xs_cons, bop_add, bop_sub, bop_mul, bop_fdiv, bop_mod, bop_pow, bop_addl, bop_adds, bop_mull, bop_muls, aop_add, aop_sub, cop_eqi, cop_nei, cop_eqs, cop_nes, cop_eqb, cop_lt, cop_le, cop_gt, cop_ge, cop_lts, cop_les, cop_is, cop_isn, b1_lenl, b1_lent, b1_lens, b1_sum, b1_abs, b1_list, b1_listt, b1_lists, b1_tuple, idx_l, idxL_l, idx_t, idx_s, truth_bl, truth_int, truth_lst, truth_tup, truth_str, truth_non, at_nil, on_nil, items0, items1, items2, items3, set_nm, set_tp, sm_nil, sm_cons, av_nil', av_cons, avg_v, avg_io, pb_nil, pb_io, pb_v, hb_nil, hb_v, hb_io, do_call, hk_l, hk_t, hk_s, hk_i, hk_b, hk_n, fins_nil, fins_cons, b2_min, b2_max, cop_neb, slc_l, slc_s, slc_t, mty_join, mty_lindex, mty_sindex, mty_split, mty_scount, isTy_list, isTy_tuple, isTy_str, isTy_int, isTy_bi, e_sortR, e_xmin, on_slot, grd_pos, x_ext, out_rt, out_nx, out_ex, out1_rt, out1_nx, out1_ex, ex_nx, List.set_cons_zero, List.set_cons_succ, List.reverse_cons, List.reverse_nil, List.nil_append, List.cons_append, Option.map_some, Option.map_none, Bool.not_true, Bool.not_false, decide_true, decide_false, if_true, if_false, Bool.false_eq_true, Bool.true_and, Bool.and_true, Bool.false_and, Bool.and_false, Bool.true_or, Bool.or_true, Bool.false_or, Bool.or_false, not_true_eq_false, not_false_eq_true, and_true, true_and, PV.lf, PV.isNon, storeV, List.length_cons, List.length_nil, List.length_map, List.isEmpty_cons, List.isEmpty_nil, and_self, Int.natCast_zero, Bool.not_not, Nat.zero_add, Int.cast_ofNat_Int, Int.reduceLT, Int.reduceLE, Int.reduceAdd, Int.reduceSub, Int.reduceMul, Int.reduceNeg, Int.reduceBEq, Int.reduceBNe, Int.reduceDiv, Int.reduceMod, Int.reduceEq, Int.reduceToNat, Nat.reduceAdd, Nat.reduceLT, Nat.reduceLeDiff, reduceIte, Nat.reduceEqDiff, reduceCtorEq, Nat.reduceMul, Nat.reduceSub, Nat.reduceBEq, List.reduceReplicate, Int.reduceGT, Int.reduceGE, pix_0, pix_1, pix_2, pix_3, List.map_cons, List.map_nil, beq_self_eq_true, bne_self_eq_false, e_mv]) (inR_of (by omega) (by omega)), Int.toNat_natCast]
  have s1 : exS C xl3b1 [some sc, some d, some (.str w), some (.str lv), some (.int m), some (.int (q : Nat)), some (.str w), o7, o8, none, none, none] = .nx [some sc, some d1, some (.str w), some (.str lv), some (.int m), some (.int (q : Nat)), some (.str s), o7', o8', none, none, none] := fr_ok hi g1
  have s2 : exS C xl3b2 [some sc, some d1, some (.str w), some (.str lv), some (.int m), some (.int (q : Nat)), some (.str s), o7', o8', none, none, none] = .nx [some sc, some d1, some (.str w), some (.str lv), some (.int m), some (.int (q : Nat)), some (.str s), o7', o8', none, none, none] := by
    simp -implicitDefEqProofs only [R.bind_ok', R.bind_ex', R.of_some, R.then_ok, R.then_ex, O.then_nx, O.then_rt, O.then_ex, O.then_ct, O.then_bk, getV0, getVs, tst_ok, tst_ex, R.of_none, e_non, e_bl, e_int, e_str, e_var, e_bv, e_gl, e_bin, e_neg, e_nt, e_an, e_or, e_cmp, e_chn, e_ite, e_lst, e_tup, e_idx, e_sl, e_rev, e_call, e_call0, e_callv, nox_ok, e_b1, e_b2, e_isi, e_m1, e_lrg, es_nil, es_cons, ea_nil, ea_io, ea_non, ea_bl, ea_int, ea_str, ea_var, ea_gl, ea_bin, ea_neg, ea_nt, ea_an, ea_or, ea_cmp, ea_chn, ea_ite, ea_lst, ea_tup, ea_idx, ea_sl, ea_rev, ea_call, ea_b1, ea_b2, ea_isi, ea_m1, ea_lrg, ea_cp, ea_mv, eo_none, eo_some, ec_none, ec_some, ei_of, ei_r1, ei_r2, x_ex, x_set, x_setT, x_par, x_sto, x_sto2, x_app1, x_augS, x_app, x_rvs, revv_l, revB_l, revB_s, x_aug, x_ret, x_retN, x_ite, x_raise, xh_nil, xh_cons, nxo_rt, nxo_nx, x_pass, x_brk, x_cnt, xs_nil, xs_cons, bop_add, bop_sub, bop_mul, bop_fdiv, bop_mod, bop_pow, bop_addl, bop_adds, bop_mull, bop_muls, aop_add, aop_sub, cop_eqi, cop_nei, cop_eqs, cop_nes, cop_eqb, cop_lt, cop_le, cop_gt, cop_ge, cop_lts, cop_les, cop_is, cop_isn, b1_lenl, b1_lent, b1_lens, b1_sum, b1_abs, b1_list, b1_listt, b1_lists, b1_tuple, idx_l, idxL_l, idx_t, idx_s, truth_bl, truth_int, truth_lst, truth_tup, truth_str, truth_non, at_nil, on_nil, items0, items1, items2, items3, set_nm, set_tp, sm_nil, sm_cons, av_nil', av_cons, avg_v, avg_io, pb_nil, pb_io, pb_v, hb_nil, hb_v, hb_io, do_call, hk_l, hk_t, hk_s, hk_i, hk_b, hk_n, fins_nil, fins_cons, b2_min, b2_max, cop_neb, slc_l, slc_s, slc_t, mty_join, mty_lindex, mty_sindex, mty_split, mty_scount, isTy_list, isTy_tuple, isTy_str, isTy_int, isTy_bi, e_sortR, e_xmin, on_slot, grd_pos, x_ext, out_rt, out_nx, out_ex, out1_rt, out1_nx, out1_ex, ex_nx, List.set_cons_zero, List.set_cons_succ, List.reverse_cons, List.reverse_nil, List.nil_append, List.cons_append, Option.map_some, Option.map_none, Bool.not_true, Bool.not_false, decide_true, decide_false, if_true, if_false, Bool.false_eq_true, Bool.true_and, Bool.and_true, Bool.false_and, Bool.and_false, Bool.true_or, Bool.or_true, Bool.false_or, Bool.or_false, not_true_eq_false, not_false_eq_true, and_true, true_and, PV.lf, PV.isNon, storeV, List.length_cons, List.length_nil, List.length_map, List.isEmpty_cons, List.isEmpty_nil, and_self, Int.natCast_zero, Bool.not_not, Nat.zero_add, Int.cast_ofNat_Int, Int.reduceLT, Int.reduceLE, Int.reduceAdd, Int.reduceSub, Int.reduceMul, Int.reduceNeg, Int.reduceBEq, Int.reduceBNe, Int.reduceDiv, Int.reduceMod, Int.reduceEq, Int.reduceToNat, Nat.reduceAdd, Nat.reduceLT, Nat.reduceLeDiff, reduceIte, Nat.reduceEqDiff, reduceCtorEq, Nat.reduceMul, Nat.reduceSub, Nat.reduceBEq, List.reduceReplicate, Int.reduceGT, Int.reduceGE, pix_0, pix_1, pix_2, pix_3, List.map_cons, List.map_nil, beq_self_eq_true, bne_self_eq_false, e_mv, xl3b2, c13, c22, c17]
  refine ⟨d1, some (.str s), o7', o8', ?_, D1⟩
  unfold bodyF xl3b
  show exSs C [xl3b0, xl3b1, xl3b2] [some sc, some d, some (.str w), some (.str lv), some (.int m), some (.int (q : Nat)), o6, o7, o8, none, none, none] = _
  rw [xs_cons, s0, O.then_nx, xs_cons, s1, O.then_nx, xs_cons, s2, O.then_nx, xs_nil]
def FR (fr : List (List Nat)) : PV := .lst (fr.map .str)
theorem joinS_nil : ∀ l : List (List Nat), joinS [] l = l.flatten
  | [] => rfl
  | [x] => by simp [joinS]
  | x :: y :: l => by
    have := joinS_nil (y :: l)
    simp [joinS, this]
theorem sum_len : ∀ l : List (List Nat), (l.map List.length).sum = l.flatten.length
  | [] => rfl
  | x :: l => by rw [List.map_cons, List.sum_cons, sum_len l, List.flatten_cons, List.length_append]
theorem join_fl {l : List (List Nat)} (h : l.flatten.length ≤ 16777216) : m1 .join (.str []) (FR l) = some (.str l.flatten) := by
  unfold FR
  show (match getSs (l.map .str) with
    | some l => grd ((l.map List.length).sum + l.length * ([] : List Nat).length ≤ SZ) (PV.str (joinS [] l))
    | none => none) = _
  rw [getSs_map]
  show grd _ _ = _
  rw [joinS_nil, sum_len]
  exact grd_pos (by show l.flatten.length + l.length * 0 ≤ 16777216; omega)
theorem flat1 {α : Type} (g : α → Nat) : ∀ l : List α, (l.map fun x => [g x]).flatten = l.map g
  | [] => rfl
  | x :: l => by
    rw [List.map_cons, List.flatten_cons, flat1 g l]
    rfl
theorem toL {α : Type} (f : α → PV) (Q : α → Prop) : ∀ vs : List PV, (∀ v, v ∈ vs → ∃ b, v = f b ∧ Q b) → ∃ l : List α, vs = l.map f ∧ ∀ b, b ∈ l → Q b
  | [], _ => ⟨[], rfl, fun _ h => nomatch h⟩
  | v :: vs, h => by
    obtain ⟨b, rfl, hb⟩ := h v (by simp)
    obtain ⟨l, rfl, hl⟩ := toL f Q vs fun v hv => h v (List.mem_cons_of_mem _ hv)
    exact ⟨b :: l, rfl, fun x hx => (List.mem_cons.mp hx).elim (fun e => e ▸ hb) (hl x)⟩
theorem st4 {C : Calls} (hC : Cs C) (sc : PV) {d : PV} (D : Draws d) (w lv : List Nat) (m : Int) (o5 o6 o7 o8 : Option PV) : ∃ d' s, exS C xl4 [some sc, some d, some (.str w), some (.str lv), some (.int m), o5, o6, o7, o8, none, none, none] = .nx [some sc, some d', some (.str w), some (.str lv), some (.int m), o5, some (.str s), o7, o8, none, none, none] ∧ Draws d' ∧ G01 s := by
  let P1 : PV → Prop := fun v => ∃ c : Nat, v = .str [c] ∧ (c = 48 ∨ c = 49)
  obtain ⟨vs, d', g1, g2, g3, g4⟩ := cp_drawS (C := C) (dd := 0) (k := 9) (sl := 1) (it := .r1 (.int 15)) (e := .b1 .str (.call 16 [(.io 1), (.int 2)])) (env := [some sc, some d, some (.str w), some (.str lv), some (.int m), o5, o6, o7, o8, none, none, none]) (env1 := [some sc, some d, some (.str w), some (.str lv), some (.int m), o5, o6, o7, o8, none, none, none]) P1 (by simp) (by decide) rfl D (ei_r1_ok (n := 15) (by simp -implicitDefEqProofs only [R.bind_ok', R.bind_ex', R.of_some, R.then_ok, R.then_ex, O.then_nx, O.then_rt, O.then_ex, O.then_ct, O.then_bk, getV0, getVs, tst_ok, tst_ex, R.of_none, e_non, e_bl, e_int, e_str, e_var, e_bv, e_gl, e_bin, e_neg, e_nt, e_an, e_or, e_cmp, e_chn, e_ite, e_lst, e_tup, e_idx, e_sl, e_rev, e_call, e_call0, e_callv, nox_ok, e_b1, e_b2, e_isi, e_m1, e_lrg, es_nil, es_cons, ea_nil, ea_io, ea_non, ea_bl, ea_int, ea_str, ea_var, ea_gl, ea_bin, ea_neg, ea_nt, ea_an, ea_or, ea_cmp, ea_chn, ea_ite, ea_lst, ea_tup, ea_idx, ea_sl, ea_rev, ea_call, ea_b1, ea_b2, ea_isi, ea_m1, ea_lrg, ea_cp, ea_mv, eo_none, eo_some, ec_none, ec_some, ei_of, ei_r1, ei_r2, x_ex, x_set, x_setT, x_par, x_sto, x_sto2, x_app1, x_augS, x_app, x_rvs, revv_l, revB_l, revB_s, x_aug, x_ret, x_retN, x_ite, x_raise, xh_nil, xh_cons, nxo_rt, nxo_nx, x_pass, x_brk, x_cnt, xs_nil, xs_cons, bop_add, bop_sub, bop_mul, bop_fdiv, bop_mod, bop_pow, bop_addl, bop_adds, bop_mull, bop_muls, aop_add, aop_sub, cop_eqi, cop_nei, cop_eqs, cop_nes, cop_eqb, cop_lt, cop_le, cop_gt, cop_ge, cop_lts, cop_les, cop_is, cop_isn, b1_lenl, b1_lent, b1_lens, b1_sum, b1_abs, b1_list, b1_listt, b1_lists, b1_tuple, idx_l, idxL_l, idx_t, idx_s, truth_bl, truth_int, truth_lst, truth_tup, truth_str, truth_non, at_nil, on_nil, items0, items1, items2, items3, set_nm, set_tp, sm_nil, sm_cons, av_nil', av_cons, avg_v, avg_io, pb_nil, pb_io, pb_v, hb_nil, hb_v, hb_io, do_call, hk_l, hk_t, hk_s, hk_i, hk_b, hk_n, fins_nil, fins_cons, b2_min, b2_max, cop_neb, slc_l, slc_s, slc_t, mty_join, mty_lindex, mty_sindex, mty_split, mty_scount, isTy_list, isTy_tuple, isTy_str, isTy_int, isTy_bi, e_sortR, e_xmin, on_slot, grd_pos, x_ext, out_rt, out_nx, out_ex, out1_rt, out1_nx, out1_ex, ex_nx, List.set_cons_zero, List.set_cons_succ, List.reverse_cons, List.reverse_nil, List.nil_append, List.cons_append, Option.map_some, Option.map_none, Bool.not_true, Bool.not_false, decide_true, decide_false, if_true, if_false, Bool.false_eq_true, Bool.true_and, Bool.and_true, Bool.false_and, Bool.and_false, Bool.true_or, Bool.or_true, Bool.false_or, Bool.or_false, not_true_eq_false, not_false_eq_true, and_true, true_and, PV.lf, PV.isNon, storeV, List.length_cons, List.length_nil, List.length_map, List.isEmpty_cons, List.isEmpty_nil, and_self, Int.natCast_zero, Bool.not_not, Nat.zero_add, Int.cast_ofNat_Int, Int.reduceLT, Int.reduceLE, Int.reduceAdd, Int.reduceSub, Int.reduceMul, Int.reduceNeg, Int.reduceBEq, Int.reduceBNe, Int.reduceDiv, Int.reduceMod, Int.reduceEq, Int.reduceToNat, Nat.reduceAdd, Nat.reduceLT, Nat.reduceLeDiff, reduceIte, Nat.reduceEqDiff, reduceCtorEq, Nat.reduceMul, Nat.reduceSub, Nat.reduceBEq, List.reduceReplicate, Int.reduceGT, Int.reduceGE, pix_0, pix_1, pix_2, pix_3, List.map_cons, List.map_nil, beq_self_eq_true, bne_self_eq_false, e_mv]) (inR_of (by decide) (by decide))) (fun x d hx D => by
    obtain ⟨r1, d', c, a, b, D'⟩ := hC.D d D 2 (by decide)
    have hx : ∃ z : Nat, b1 .str (.int r1) = some (.str [z]) ∧ (z = 48 ∨ z = 49) := by
      rcases (show r1 = 0 ∨ r1 = 1 by omega) with rfl | rfl
      · exact ⟨48, rfl, .inl rfl⟩
      · exact ⟨49, rfl, .inr rfl⟩
    obtain ⟨z, hz, hz2⟩ := hx
    exact ⟨.str [z], d', by simp -implicitDefEqProofs only [R.bind_ok', R.bind_ex', R.of_some, R.then_ok, R.then_ex, O.then_nx, O.then_rt, O.then_ex, O.then_ct, O.then_bk, getV0, getVs, tst_ok, tst_ex, R.of_none, e_non, e_bl, e_int, e_str, e_var, e_bv, e_gl, e_bin, e_neg, e_nt, e_an, e_or, e_cmp, e_chn, e_ite, e_lst, e_tup, e_idx, e_sl, e_rev, e_call, e_call0, e_callv, nox_ok, e_b1, e_b2, e_isi, e_m1, e_lrg, es_nil, es_cons, ea_nil, ea_io, ea_non, ea_bl, ea_int, ea_str, ea_var, ea_gl, ea_bin, ea_neg, ea_nt, ea_an, ea_or, ea_cmp, ea_chn, ea_ite, ea_lst, ea_tup, ea_idx, ea_sl, ea_rev, ea_call, ea_b1, ea_b2, ea_isi, ea_m1, ea_lrg, ea_cp, ea_mv, eo_none, eo_some, ec_none, ec_some, ei_of, ei_r1, ei_r2, x_ex, x_set, x_setT, x_par, x_sto, x_sto2, x_app1, x_augS, x_app, x_rvs, revv_l, revB_l, revB_s, x_aug, x_ret, x_retN, x_ite, x_raise, xh_nil, xh_cons, nxo_rt, nxo_nx, x_pass, x_brk, x_cnt, xs_nil, xs_cons, bop_add, bop_sub, bop_mul, bop_fdiv, bop_mod, bop_pow, bop_addl, bop_adds, bop_mull, bop_muls, aop_add, aop_sub, cop_eqi, cop_nei, cop_eqs, cop_nes, cop_eqb, cop_lt, cop_le, cop_gt, cop_ge, cop_lts, cop_les, cop_is, cop_isn, b1_lenl, b1_lent, b1_lens, b1_sum, b1_abs, b1_list, b1_listt, b1_lists, b1_tuple, idx_l, idxL_l, idx_t, idx_s, truth_bl, truth_int, truth_lst, truth_tup, truth_str, truth_non, at_nil, on_nil, items0, items1, items2, items3, set_nm, set_tp, sm_nil, sm_cons, av_nil', av_cons, avg_v, avg_io, pb_nil, pb_io, pb_v, hb_nil, hb_v, hb_io, do_call, hk_l, hk_t, hk_s, hk_i, hk_b, hk_n, fins_nil, fins_cons, b2_min, b2_max, cop_neb, slc_l, slc_s, slc_t, mty_join, mty_lindex, mty_sindex, mty_split, mty_scount, isTy_list, isTy_tuple, isTy_str, isTy_int, isTy_bi, e_sortR, e_xmin, on_slot, grd_pos, x_ext, out_rt, out_nx, out_ex, out1_rt, out1_nx, out1_ex, ex_nx, List.set_cons_zero, List.set_cons_succ, List.reverse_cons, List.reverse_nil, List.nil_append, List.cons_append, Option.map_some, Option.map_none, Bool.not_true, Bool.not_false, decide_true, decide_false, if_true, if_false, Bool.false_eq_true, Bool.true_and, Bool.and_true, Bool.false_and, Bool.and_false, Bool.true_or, Bool.or_true, Bool.false_or, Bool.or_false, not_true_eq_false, not_false_eq_true, and_true, true_and, PV.lf, PV.isNon, storeV, List.length_cons, List.length_nil, List.length_map, List.isEmpty_cons, List.isEmpty_nil, and_self, Int.natCast_zero, Bool.not_not, Nat.zero_add, Int.cast_ofNat_Int, Int.reduceLT, Int.reduceLE, Int.reduceAdd, Int.reduceSub, Int.reduceMul, Int.reduceNeg, Int.reduceBEq, Int.reduceBNe, Int.reduceDiv, Int.reduceMod, Int.reduceEq, Int.reduceToNat, Nat.reduceAdd, Nat.reduceLT, Nat.reduceLeDiff, reduceIte, Nat.reduceEqDiff, reduceCtorEq, Nat.reduceMul, Nat.reduceSub, Nat.reduceBEq, List.reduceReplicate, Int.reduceGT, Int.reduceGE, pix_0, pix_1, pix_2, pix_3, List.map_cons, List.map_nil, beq_self_eq_true, bne_self_eq_false, e_mv, c, hz], ⟨z, rfl, hz2⟩, D'⟩) (by rw [rangeI_length]; decide)
  obtain ⟨row, rfl, hrow⟩ := toL (fun c => PV.str [c]) (fun c => c = 48 ∨ c = 49) vs g4
  rw [List.length_map, rangeI_length] at g3
  have g3 : row.length = 15 := g3
  have hj := join_fl (l := row.map fun c => [c]) (by rw [flat1]; simp; omega)
  rw [flat1, List.map_id'] at hj
  unfold FR at hj
  rw [List.map_map] at hj
  have e : row.map (PV.str ∘ fun c => [c]) = row.map fun c => PV.str [c] := rfl
  rw [e] at hj
  refine ⟨d', row, ?_, g2, g3, hrow⟩
  unfold xl4
  rw [x_set, e_m1, e_str, R.bind_ok', if_pos (show m1Ty M1.join (PV.str []) = true from rfl), g1, R.bind_ok', hj]
  rfl
theorem st5 {C : Calls} (hC : Cs C) (sc d : PV) {i : Nat} (hi : i < 32) (lv : List Nat) (m : Int) {s : List Nat} (hs : G01 s) (o5 o7 o8 : Option PV) : exS C xl5 [some sc, some d, some (.str (wd i)), some (.str lv), some (.int m), o5, some (.str s), o7, o8, none, none, none] = .nx [some sc, some d, some (.str (wd i)), some (.str lv), some (.int m), o5, some (.str s), o7, o8, none, none, none] := by
  obtain ⟨v, c13, c22, c17⟩ := hC.fn s hs
  have h21 := hC.h21
  have e1 : evE C (.cp 0 [10] (.nm 10) (.of 0 (.call0 21)) none (.call 20 [(.rev (.var 2)), (.idx (.var 10) (.int 0))])) [some sc, some d, some (.str (wd i)), some (.str lv), some (.int m), o5, some (.str s), o7, o8, none, none, none] = .ok (.lst (((List.range 32).map fun j => ((hd (wd i).reverse (wd j) : Nat) : Int)).map .int)) [some sc, some d, some (.str (wd i)), some (.str lv), some (.int m), o5, some (.str s), o7, o8, none, none, none] := by
    refine (cp_map (xs := ALL) (env1 := [some sc, some d, some (.str (wd i)), some (.str lv), some (.int m), o5, some (.str s), o7, o8, none, none, none]) (fun x => match x with
      | .tup (.str w :: _) => .int (hd (wd i).reverse w : Nat)
      | _ => .non) (by simp) (by simp -implicitDefEqProofs only [R.bind_ok', R.bind_ex', R.of_some, R.then_ok, R.then_ex, O.then_nx, O.then_rt, O.then_ex, O.then_ct, O.then_bk, getV0, getVs, tst_ok, tst_ex, R.of_none, e_non, e_bl, e_int, e_str, e_var, e_bv, e_gl, e_bin, e_neg, e_nt, e_an, e_or, e_cmp, e_chn, e_ite, e_lst, e_tup, e_idx, e_sl, e_rev, e_call, e_call0, e_callv, nox_ok, e_b1, e_b2, e_isi, e_m1, e_lrg, es_nil, es_cons, ea_nil, ea_io, ea_non, ea_bl, ea_int, ea_str, ea_var, ea_gl, ea_bin, ea_neg, ea_nt, ea_an, ea_or, ea_cmp, ea_chn, ea_ite, ea_lst, ea_tup, ea_idx, ea_sl, ea_rev, ea_call, ea_b1, ea_b2, ea_isi, ea_m1, ea_lrg, ea_cp, ea_mv, eo_none, eo_some, ec_none, ec_some, ei_of, ei_r1, ei_r2, x_ex, x_set, x_setT, x_par, x_sto, x_sto2, x_app1, x_augS, x_app, x_rvs, revv_l, revB_l, revB_s, x_aug, x_ret, x_retN, x_ite, x_raise, xh_nil, xh_cons, nxo_rt, nxo_nx, x_pass, x_brk, x_cnt, xs_nil, xs_cons, bop_add, bop_sub, bop_mul, bop_fdiv, bop_mod, bop_pow, bop_addl, bop_adds, bop_mull, bop_muls, aop_add, aop_sub, cop_eqi, cop_nei, cop_eqs, cop_nes, cop_eqb, cop_lt, cop_le, cop_gt, cop_ge, cop_lts, cop_les, cop_is, cop_isn, b1_lenl, b1_lent, b1_lens, b1_sum, b1_abs, b1_list, b1_listt, b1_lists, b1_tuple, idx_l, idxL_l, idx_t, idx_s, truth_bl, truth_int, truth_lst, truth_tup, truth_str, truth_non, at_nil, on_nil, items0, items1, items2, items3, set_nm, set_tp, sm_nil, sm_cons, av_nil', av_cons, avg_v, avg_io, pb_nil, pb_io, pb_v, hb_nil, hb_v, hb_io, do_call, hk_l, hk_t, hk_s, hk_i, hk_b, hk_n, fins_nil, fins_cons, b2_min, b2_max, cop_neb, slc_l, slc_s, slc_t, mty_join, mty_lindex, mty_sindex, mty_split, mty_scount, isTy_list, isTy_tuple, isTy_str, isTy_int, isTy_bi, e_sortR, e_xmin, on_slot, grd_pos, x_ext, out_rt, out_nx, out_ex, out1_rt, out1_nx, out1_ex, ex_nx, List.set_cons_zero, List.set_cons_succ, List.reverse_cons, List.reverse_nil, List.nil_append, List.cons_append, Option.map_some, Option.map_none, Bool.not_true, Bool.not_false, decide_true, decide_false, if_true, if_false, Bool.false_eq_true, Bool.true_and, Bool.and_true, Bool.false_and, Bool.and_false, Bool.true_or, Bool.or_true, Bool.false_or, Bool.or_false, not_true_eq_false, not_false_eq_true, and_true, true_and, PV.lf, PV.isNon, storeV, List.length_cons, List.length_nil, List.length_map, List.isEmpty_cons, List.isEmpty_nil, and_self, Int.natCast_zero, Bool.not_not, Nat.zero_add, Int.cast_ofNat_Int, Int.reduceLT, Int.reduceLE, Int.reduceAdd, Int.reduceSub, Int.reduceMul, Int.reduceNeg, Int.reduceBEq, Int.reduceBNe, Int.reduceDiv, Int.reduceMod, Int.reduceEq, Int.reduceToNat, Nat.reduceAdd, Nat.reduceLT, Nat.reduceLeDiff, reduceIte, Nat.reduceEqDiff, reduceCtorEq, Nat.reduceMul, Nat.reduceSub, Nat.reduceBEq, List.reduceReplicate, Int.reduceGT, Int.reduceGE, pix_0, pix_1, pix_2, pix_3, List.map_cons, List.map_nil, beq_self_eq_true, bne_self_eq_false, e_mv, h21]) (fun x hx => ?_) (by unfold ALL; simp; decide)).trans ?_
    · obtain ⟨j, hj, rfl⟩ := List.mem_map.mp hx
      have c20 := hC.h20 i j hi (List.mem_range.mp hj)
      unfold AT
      simp -implicitDefEqProofs only [R.bind_ok', R.bind_ex', R.of_some, R.then_ok, R.then_ex, O.then_nx, O.then_rt, O.then_ex, O.then_ct, O.then_bk, getV0, getVs, tst_ok, tst_ex, R.of_none, e_non, e_bl, e_int, e_str, e_var, e_bv, e_gl, e_bin, e_neg, e_nt, e_an, e_or, e_cmp, e_chn, e_ite, e_lst, e_tup, e_idx, e_sl, e_rev, e_call, e_call0, e_callv, nox_ok, e_b1, e_b2, e_isi, e_m1, e_lrg, es_nil, es_cons, ea_nil, ea_io, ea_non, ea_bl, ea_int, ea_str, ea_var, ea_gl, ea_bin, ea_neg, ea_nt, ea_an, ea_or, ea_cmp, ea_chn, ea_ite, ea_lst, ea_tup, ea_idx, ea_sl, ea_rev, ea_call, ea_b1, ea_b2, ea_isi, ea_m1, ea_lrg, ea_cp, ea_mv, eo_none, eo_some, ec_none, ec_some, ei_of, ei_r1, ei_r2, x_ex, x_set, x_setT, x_par, x_sto, x_sto2, x_app1, x_augS, x_app, x_rvs, revv_l, revB_l, revB_s, x_aug, x_ret, x_retN, x_ite, x_raise, xh_nil, xh_cons, nxo_rt, nxo_nx, x_pass, x_brk, x_cnt, xs_nil, xs_cons, bop_add, bop_sub, bop_mul, bop_fdiv, bop_mod, bop_pow, bop_addl, bop_adds, bop_mull, bop_muls, aop_add, aop_sub, cop_eqi, cop_nei, cop_eqs, cop_nes, cop_eqb, cop_lt, cop_le, cop_gt, cop_ge, cop_lts, cop_les, cop_is, cop_isn, b1_lenl, b1_lent, b1_lens, b1_sum, b1_abs, b1_list, b1_listt, b1_lists, b1_tuple, idx_l, idxL_l, idx_t, idx_s, truth_bl, truth_int, truth_lst, truth_tup, truth_str, truth_non, at_nil, on_nil, items0, items1, items2, items3, set_nm, set_tp, sm_nil, sm_cons, av_nil', av_cons, avg_v, avg_io, pb_nil, pb_io, pb_v, hb_nil, hb_v, hb_io, do_call, hk_l, hk_t, hk_s, hk_i, hk_b, hk_n, fins_nil, fins_cons, b2_min, b2_max, cop_neb, slc_l, slc_s, slc_t, mty_join, mty_lindex, mty_sindex, mty_split, mty_scount, isTy_list, isTy_tuple, isTy_str, isTy_int, isTy_bi, e_sortR, e_xmin, on_slot, grd_pos, x_ext, out_rt, out_nx, out_ex, out1_rt, out1_nx, out1_ex, ex_nx, List.set_cons_zero, List.set_cons_succ, List.reverse_cons, List.reverse_nil, List.nil_append, List.cons_append, Option.map_some, Option.map_none, Bool.not_true, Bool.not_false, decide_true, decide_false, if_true, if_false, Bool.false_eq_true, Bool.true_and, Bool.and_true, Bool.false_and, Bool.and_false, Bool.true_or, Bool.or_true, Bool.false_or, Bool.or_false, not_true_eq_false, not_false_eq_true, and_true, true_and, PV.lf, PV.isNon, storeV, List.length_cons, List.length_nil, List.length_map, List.isEmpty_cons, List.isEmpty_nil, and_self, Int.natCast_zero, Bool.not_not, Nat.zero_add, Int.cast_ofNat_Int, Int.reduceLT, Int.reduceLE, Int.reduceAdd, Int.reduceSub, Int.reduceMul, Int.reduceNeg, Int.reduceBEq, Int.reduceBNe, Int.reduceDiv, Int.reduceMod, Int.reduceEq, Int.reduceToNat, Nat.reduceAdd, Nat.reduceLT, Nat.reduceLeDiff, reduceIte, Nat.reduceEqDiff, reduceCtorEq, Nat.reduceMul, Nat.reduceSub, Nat.reduceBEq, List.reduceReplicate, Int.reduceGT, Int.reduceGE, pix_0, pix_1, pix_2, pix_3, List.map_cons, List.map_nil, beq_self_eq_true, bne_self_eq_false, e_mv, c20]
    · unfold ALL
      rw [List.map_map, List.map_map]
      rfl
  have mn : ∃ y : Int, b1 .min (.lst (((List.range 32).map fun j => ((hd (wd i).reverse (wd j) : Nat) : Int)).map .int)) = some (.int y) ∧ ¬ y < 3 := by
    have ne : ((List.range 32).map fun j => ((hd (wd i).reverse (wd j) : Nat) : Int)) ≠ [] := by simp
    refine ⟨_, b1_min_ok ne, ?_⟩
    obtain ⟨j, hj, e⟩ := List.mem_map.mp (mnL_mem ne)
    have := of_decide_eq_true (List.all_eq_true.mp (List.all_eq_true.mp far i (List.mem_range.mpr hi)) j hj)
    rw [← e]
    omega
  obtain ⟨y, hy, h3⟩ := mn
  have e2 : evE C (.b1 .min (.cp 0 [10] (.nm 10) (.of 0 (.call0 21)) none (.call 20 [(.rev (.var 2)), (.idx (.var 10) (.int 0))]))) [some sc, some d, some (.str (wd i)), some (.str lv), some (.int m), o5, some (.str s), o7, o8, none, none, none] = .ok (.int y) [some sc, some d, some (.str (wd i)), some (.str lv), some (.int m), o5, some (.str s), o7, o8, none, none, none] := by
    rw [e_b1, e1, R.bind_ok', hy]
    rfl
  unfold xl5
  generalize (CE.b1 .min (.cp 0 [10] (.nm 10) (.of 0 (.call0 21)) none (.call 20 [(.rev (.var 2)), (.idx (.var 10) (.int 0))]))) = E at e2
  simp -implicitDefEqProofs only [R.bind_ok', R.bind_ex', R.of_some, R.then_ok, R.then_ex, O.then_nx, O.then_rt, O.then_ex, O.then_ct, O.then_bk, getV0, getVs, tst_ok, tst_ex, R.of_none, e_non, e_bl, e_int, e_str, e_var, e_bv, e_gl, e_bin, e_neg, e_nt, e_an, e_or, e_cmp, e_chn, e_ite, e_lst, e_tup, e_idx, e_sl, e_rev, e_call, e_call0, e_callv, nox_ok, e_b1, e_b2, e_isi, e_m1, e_lrg, es_nil, es_cons, ea_nil, ea_io, ea_non, ea_bl, ea_int, ea_str, ea_var, ea_gl, ea_bin, ea_neg, ea_nt, ea_an, ea_or, ea_cmp, ea_chn, ea_ite, ea_lst, ea_tup, ea_idx, ea_sl, ea_rev, ea_call, ea_b1, ea_b2, ea_isi, ea_m1, ea_lrg, ea_cp, ea_mv, eo_none, eo_some, ec_none, ec_some, ei_of, ei_r1, ei_r2, x_ex, x_set, x_setT, x_par, x_sto, x_sto2, x_app1, x_augS, x_app, x_rvs, revv_l, revB_l, revB_s, x_aug, x_ret, x_retN, x_ite, x_raise, xh_nil, xh_cons, nxo_rt, nxo_nx, x_pass, x_brk, x_cnt, xs_nil, xs_cons, bop_add, bop_sub, bop_mul, bop_fdiv, bop_mod, bop_pow, bop_addl, bop_adds, bop_mull, bop_muls, aop_add, aop_sub, cop_eqi, cop_nei, cop_eqs, cop_nes, cop_eqb, cop_lt, cop_le, cop_gt, cop_ge, cop_lts, cop_les, cop_is, cop_isn, b1_lenl, b1_lent, b1_lens, b1_sum, b1_abs, b1_list, b1_listt, b1_lists, b1_tuple, idx_l, idxL_l, idx_t, idx_s, truth_bl, truth_int, truth_lst, truth_tup, truth_str, truth_non, at_nil, on_nil, items0, items1, items2, items3, set_nm, set_tp, sm_nil, sm_cons, av_nil', av_cons, avg_v, avg_io, pb_nil, pb_io, pb_v, hb_nil, hb_v, hb_io, do_call, hk_l, hk_t, hk_s, hk_i, hk_b, hk_n, fins_nil, fins_cons, b2_min, b2_max, cop_neb, slc_l, slc_s, slc_t, mty_join, mty_lindex, mty_sindex, mty_split, mty_scount, isTy_list, isTy_tuple, isTy_str, isTy_int, isTy_bi, e_sortR, e_xmin, on_slot, grd_pos, x_ext, out_rt, out_nx, out_ex, out1_rt, out1_nx, out1_ex, ex_nx, List.set_cons_zero, List.set_cons_succ, List.reverse_cons, List.reverse_nil, List.nil_append, List.cons_append, Option.map_some, Option.map_none, Bool.not_true, Bool.not_false, decide_true, decide_false, if_true, if_false, Bool.false_eq_true, Bool.true_and, Bool.and_true, Bool.false_and, Bool.and_false, Bool.true_or, Bool.or_true, Bool.false_or, Bool.or_false, not_true_eq_false, not_false_eq_true, and_true, true_and, PV.lf, PV.isNon, storeV, List.length_cons, List.length_nil, List.length_map, List.isEmpty_cons, List.isEmpty_nil, and_self, Int.natCast_zero, Bool.not_not, Nat.zero_add, Int.cast_ofNat_Int, Int.reduceLT, Int.reduceLE, Int.reduceAdd, Int.reduceSub, Int.reduceMul, Int.reduceNeg, Int.reduceBEq, Int.reduceBNe, Int.reduceDiv, Int.reduceMod, Int.reduceEq, Int.reduceToNat, Nat.reduceAdd, Nat.reduceLT, Nat.reduceLeDiff, reduceIte, Nat.reduceEqDiff, reduceCtorEq, Nat.reduceMul, Nat.reduceSub, Nat.reduceBEq, List.reduceReplicate, Int.reduceGT, Int.reduceGE, pix_0, pix_1, pix_2, pix_3, List.map_cons, List.map_nil, beq_self_eq_true, bne_self_eq_false, e_mv, c13, c22, c17, e2, h3]
theorem st6 {C : Calls} (hC : Cs C) (sc d : PV) (w lv : List Nat) (m : Int) (o5 o6 o7 o8 : Option PV) : ∃ o11', exS C xl6 [some sc, some d, some (.str w), some (.str lv), some (.int m), o5, o6, o7, o8, none, none, none] = .nx [some sc, some d, some (.str w), some (.str lv), some (.int m), o5, o6, o7, o8, none, none, o11'] := by
  obtain ⟨o', g⟩ := forL_each (f := bodyF C (.nm 11) xl6b) (fun o11 => [some sc, some d, some (.str w), some (.str lv), some (.int m), o5, o6, o7, o8, none, none, o11]) BAD1 none (fun x o hx => by
    have a := hC.bad1 x hx
    unfold bodyF
    simp -implicitDefEqProofs only [R.bind_ok', R.bind_ex', R.of_some, R.then_ok, R.then_ex, O.then_nx, O.then_rt, O.then_ex, O.then_ct, O.then_bk, getV0, getVs, tst_ok, tst_ex, R.of_none, e_non, e_bl, e_int, e_str, e_var, e_bv, e_gl, e_bin, e_neg, e_nt, e_an, e_or, e_cmp, e_chn, e_ite, e_lst, e_tup, e_idx, e_sl, e_rev, e_call, e_call0, e_callv, nox_ok, e_b1, e_b2, e_isi, e_m1, e_lrg, es_nil, es_cons, ea_nil, ea_io, ea_non, ea_bl, ea_int, ea_str, ea_var, ea_gl, ea_bin, ea_neg, ea_nt, ea_an, ea_or, ea_cmp, ea_chn, ea_ite, ea_lst, ea_tup, ea_idx, ea_sl, ea_rev, ea_call, ea_b1, ea_b2, ea_isi, ea_m1, ea_lrg, ea_cp, ea_mv, eo_none, eo_some, ec_none, ec_some, ei_of, ei_r1, ei_r2, x_ex, x_set, x_setT, x_par, x_sto, x_sto2, x_app1, x_augS, x_app, x_rvs, revv_l, revB_l, revB_s, x_aug, x_ret, x_retN, x_ite, x_raise, xh_nil, xh_cons, nxo_rt, nxo_nx, x_pass, x_brk, x_cnt, xs_nil, xs_cons, bop_add, bop_sub, bop_mul, bop_fdiv, bop_mod, bop_pow, bop_addl, bop_adds, bop_mull, bop_muls, aop_add, aop_sub, cop_eqi, cop_nei, cop_eqs, cop_nes, cop_eqb, cop_lt, cop_le, cop_gt, cop_ge, cop_lts, cop_les, cop_is, cop_isn, b1_lenl, b1_lent, b1_lens, b1_sum, b1_abs, b1_list, b1_listt, b1_lists, b1_tuple, idx_l, idxL_l, idx_t, idx_s, truth_bl, truth_int, truth_lst, truth_tup, truth_str, truth_non, at_nil, on_nil, items0, items1, items2, items3, set_nm, set_tp, sm_nil, sm_cons, av_nil', av_cons, avg_v, avg_io, pb_nil, pb_io, pb_v, hb_nil, hb_v, hb_io, do_call, hk_l, hk_t, hk_s, hk_i, hk_b, hk_n, fins_nil, fins_cons, b2_min, b2_max, cop_neb, slc_l, slc_s, slc_t, mty_join, mty_lindex, mty_sindex, mty_split, mty_scount, isTy_list, isTy_tuple, isTy_str, isTy_int, isTy_bi, e_sortR, e_xmin, on_slot, grd_pos, x_ext, out_rt, out_nx, out_ex, out1_rt, out1_nx, out1_ex, ex_nx, List.set_cons_zero, List.set_cons_succ, List.reverse_cons, List.reverse_nil, List.nil_append, List.cons_append, Option.map_some, Option.map_none, Bool.not_true, Bool.not_false, decide_true, decide_false, if_true, if_false, Bool.false_eq_true, Bool.true_and, Bool.and_true, Bool.false_and, Bool.and_false, Bool.true_or, Bool.or_true, Bool.false_or, Bool.or_false, not_true_eq_false, not_false_eq_true, and_true, true_and, PV.lf, PV.isNon, storeV, List.length_cons, List.length_nil, List.length_map, List.isEmpty_cons, List.isEmpty_nil, and_self, Int.natCast_zero, Bool.not_not, Nat.zero_add, Int.cast_ofNat_Int, Int.reduceLT, Int.reduceLE, Int.reduceAdd, Int.reduceSub, Int.reduceMul, Int.reduceNeg, Int.reduceBEq, Int.reduceBNe, Int.reduceDiv, Int.reduceMod, Int.reduceEq, Int.reduceToNat, Nat.reduceAdd, Nat.reduceLT, Nat.reduceLeDiff, reduceIte, Nat.reduceEqDiff, reduceCtorEq, Nat.reduceMul, Nat.reduceSub, Nat.reduceBEq, List.reduceReplicate, Int.reduceGT, Int.reduceGE, pix_0, pix_1, pix_2, pix_3, List.map_cons, List.map_nil, beq_self_eq_true, bne_self_eq_false, e_mv, xl6b, xl6b0, x_try, a, show [1].contains 1 = true from rfl])
  have k1 : bop .mul (.str [49]) (.int 14) = some (.str (List.replicate 14 49)) := rfl
  have k2 : bop .mul (.str [49]) (.int 16) = some (.str (List.replicate 16 49)) := rfl
  have k3 : bop .mul (.str [50]) (.int 15) = some (.str (List.replicate 15 50)) := rfl
  have hi : evI C (.of 0 (.lst 1 [(.str []), (.bin .mul (.str [49]) (.int 14)), (.bin .mul (.str [49]) (.int 16)), (.bin .mul (.str [50]) (.int 15)), .non, (.int 1)])) [some sc, some d, some (.str w), some (.str lv), some (.int m), o5, o6, o7, o8, none, none, none] = .ok BAD1 [some sc, some d, some (.str w), some (.str lv), some (.int m), o5, o6, o7, o8, none, none, none] := by
    unfold BAD1
    generalize List.replicate 14 49 = A at *
    generalize List.replicate 16 49 = B at *
    generalize List.replicate 15 50 = F at *
    simp -implicitDefEqProofs only [R.bind_ok', R.bind_ex', R.of_some, R.then_ok, R.then_ex, O.then_nx, O.then_rt, O.then_ex, O.then_ct, O.then_bk, getV0, getVs, tst_ok, tst_ex, R.of_none, e_non, e_bl, e_int, e_str, e_var, e_bv, e_gl, e_bin, e_neg, e_nt, e_an, e_or, e_cmp, e_chn, e_ite, e_lst, e_tup, e_idx, e_sl, e_rev, e_call, e_call0, e_callv, nox_ok, e_b1, e_b2, e_isi, e_m1, e_lrg, es_nil, es_cons, ea_nil, ea_io, ea_non, ea_bl, ea_int, ea_str, ea_var, ea_gl, ea_bin, ea_neg, ea_nt, ea_an, ea_or, ea_cmp, ea_chn, ea_ite, ea_lst, ea_tup, ea_idx, ea_sl, ea_rev, ea_call, ea_b1, ea_b2, ea_isi, ea_m1, ea_lrg, ea_cp, ea_mv, eo_none, eo_some, ec_none, ec_some, ei_of, ei_r1, ei_r2, x_ex, x_set, x_setT, x_par, x_sto, x_sto2, x_app1, x_augS, x_app, x_rvs, revv_l, revB_l, revB_s, x_aug, x_ret, x_retN, x_ite, x_raise, xh_nil, xh_cons, nxo_rt, nxo_nx, x_pass, x_brk, x_cnt, xs_nil, xs_cons, bop_add, bop_sub, bop_mul, bop_fdiv, bop_mod, bop_pow, bop_addl, bop_adds, bop_mull, bop_muls, aop_add, aop_sub, cop_eqi, cop_nei, cop_eqs, cop_nes, cop_eqb, cop_lt, cop_le, cop_gt, cop_ge, cop_lts, cop_les, cop_is, cop_isn, b1_lenl, b1_lent, b1_lens, b1_sum, b1_abs, b1_list, b1_listt, b1_lists, b1_tuple, idx_l, idxL_l, idx_t, idx_s, truth_bl, truth_int, truth_lst, truth_tup, truth_str, truth_non, at_nil, on_nil, items0, items1, items2, items3, set_nm, set_tp, sm_nil, sm_cons, av_nil', av_cons, avg_v, avg_io, pb_nil, pb_io, pb_v, hb_nil, hb_v, hb_io, do_call, hk_l, hk_t, hk_s, hk_i, hk_b, hk_n, fins_nil, fins_cons, b2_min, b2_max, cop_neb, slc_l, slc_s, slc_t, mty_join, mty_lindex, mty_sindex, mty_split, mty_scount, isTy_list, isTy_tuple, isTy_str, isTy_int, isTy_bi, e_sortR, e_xmin, on_slot, grd_pos, x_ext, out_rt, out_nx, out_ex, out1_rt, out1_nx, out1_ex, ex_nx, List.set_cons_zero, List.set_cons_succ, List.reverse_cons, List.reverse_nil, List.nil_append, List.cons_append, Option.map_some, Option.map_none, Bool.not_true, Bool.not_false, decide_true, decide_false, if_true, if_false, Bool.false_eq_true, Bool.true_and, Bool.and_true, Bool.false_and, Bool.and_false, Bool.true_or, Bool.or_true, Bool.false_or, Bool.or_false, not_true_eq_false, not_false_eq_true, and_true, true_and, PV.lf, PV.isNon, storeV, List.length_cons, List.length_nil, List.length_map, List.isEmpty_cons, List.isEmpty_nil, and_self, Int.natCast_zero, Bool.not_not, Nat.zero_add, Int.cast_ofNat_Int, Int.reduceLT, Int.reduceLE, Int.reduceAdd, Int.reduceSub, Int.reduceMul, Int.reduceNeg, Int.reduceBEq, Int.reduceBNe, Int.reduceDiv, Int.reduceMod, Int.reduceEq, Int.reduceToNat, Nat.reduceAdd, Nat.reduceLT, Nat.reduceLeDiff, reduceIte, Nat.reduceEqDiff, reduceCtorEq, Nat.reduceMul, Nat.reduceSub, Nat.reduceBEq, List.reduceReplicate, Int.reduceGT, Int.reduceGE, pix_0, pix_1, pix_2, pix_3, List.map_cons, List.map_nil, beq_self_eq_true, bne_self_eq_false, e_mv, -bop_muls, k1, k2, k3]
  exact ⟨o', fr_ok hi g⟩
theorem st7 {C : Calls} (hC : Cs C) (sc d : PV) (w lv : List Nat) (m : Int) (o5 o6 o7 o8 o11 : Option PV) : ∃ o11', exS C xl7 [some sc, some d, some (.str w), some (.str lv), some (.int m), o5, o6, o7, o8, none, none, o11] = .nx [some sc, some d, some (.str w), some (.str lv), some (.int m), o5, o6, o7, o8, none, none, o11'] := by
  obtain ⟨o', g⟩ := forL_each (f := bodyF C (.nm 11) xl7b) (fun o11 => [some sc, some d, some (.str w), some (.str lv), some (.int m), o5, o6, o7, o8, none, none, o11]) (BAD2.map fun p => .tup [p.1, p.2]) o11 (fun x o hx => by
    obtain ⟨p, hp, rfl⟩ := List.mem_map.mp hx
    have a := hC.bad2 p hp
    unfold bodyF
    simp -implicitDefEqProofs only [R.bind_ok', R.bind_ex', R.of_some, R.then_ok, R.then_ex, O.then_nx, O.then_rt, O.then_ex, O.then_ct, O.then_bk, getV0, getVs, tst_ok, tst_ex, R.of_none, e_non, e_bl, e_int, e_str, e_var, e_bv, e_gl, e_bin, e_neg, e_nt, e_an, e_or, e_cmp, e_chn, e_ite, e_lst, e_tup, e_idx, e_sl, e_rev, e_call, e_call0, e_callv, nox_ok, e_b1, e_b2, e_isi, e_m1, e_lrg, es_nil, es_cons, ea_nil, ea_io, ea_non, ea_bl, ea_int, ea_str, ea_var, ea_gl, ea_bin, ea_neg, ea_nt, ea_an, ea_or, ea_cmp, ea_chn, ea_ite, ea_lst, ea_tup, ea_idx, ea_sl, ea_rev, ea_call, ea_b1, ea_b2, ea_isi, ea_m1, ea_lrg, ea_cp, ea_mv, eo_none, eo_some, ec_none, ec_some, ei_of, ei_r1, ei_r2, x_ex, x_set, x_setT, x_par, x_sto, x_sto2, x_app1, x_augS, x_app, x_rvs, revv_l, revB_l, revB_s, x_aug, x_ret, x_retN, x_ite, x_raise, xh_nil, xh_cons, nxo_rt, nxo_nx, x_pass, x_brk, x_cnt, xs_nil, xs_cons, bop_add, bop_sub, bop_mul, bop_fdiv, bop_mod, bop_pow, bop_addl, bop_adds, bop_mull, bop_muls, aop_add, aop_sub, cop_eqi, cop_nei, cop_eqs, cop_nes, cop_eqb, cop_lt, cop_le, cop_gt, cop_ge, cop_lts, cop_les, cop_is, cop_isn, b1_lenl, b1_lent, b1_lens, b1_sum, b1_abs, b1_list, b1_listt, b1_lists, b1_tuple, idx_l, idxL_l, idx_t, idx_s, truth_bl, truth_int, truth_lst, truth_tup, truth_str, truth_non, at_nil, on_nil, items0, items1, items2, items3, set_nm, set_tp, sm_nil, sm_cons, av_nil', av_cons, avg_v, avg_io, pb_nil, pb_io, pb_v, hb_nil, hb_v, hb_io, do_call, hk_l, hk_t, hk_s, hk_i, hk_b, hk_n, fins_nil, fins_cons, b2_min, b2_max, cop_neb, slc_l, slc_s, slc_t, mty_join, mty_lindex, mty_sindex, mty_split, mty_scount, isTy_list, isTy_tuple, isTy_str, isTy_int, isTy_bi, e_sortR, e_xmin, on_slot, grd_pos, x_ext, out_rt, out_nx, out_ex, out1_rt, out1_nx, out1_ex, ex_nx, List.set_cons_zero, List.set_cons_succ, List.reverse_cons, List.reverse_nil, List.nil_append, List.cons_append, Option.map_some, Option.map_none, Bool.not_true, Bool.not_false, decide_true, decide_false, if_true, if_false, Bool.false_eq_true, Bool.true_and, Bool.and_true, Bool.false_and, Bool.and_false, Bool.true_or, Bool.or_true, Bool.false_or, Bool.or_false, not_true_eq_false, not_false_eq_true, and_true, true_and, PV.lf, PV.isNon, storeV, List.length_cons, List.length_nil, List.length_map, List.isEmpty_cons, List.isEmpty_nil, and_self, Int.natCast_zero, Bool.not_not, Nat.zero_add, Int.cast_ofNat_Int, Int.reduceLT, Int.reduceLE, Int.reduceAdd, Int.reduceSub, Int.reduceMul, Int.reduceNeg, Int.reduceBEq, Int.reduceBNe, Int.reduceDiv, Int.reduceMod, Int.reduceEq, Int.reduceToNat, Nat.reduceAdd, Nat.reduceLT, Nat.reduceLeDiff, reduceIte, Nat.reduceEqDiff, reduceCtorEq, Nat.reduceMul, Nat.reduceSub, Nat.reduceBEq, List.reduceReplicate, Int.reduceGT, Int.reduceGE, pix_0, pix_1, pix_2, pix_3, List.map_cons, List.map_nil, beq_self_eq_true, bne_self_eq_false, e_mv, xl7b, xl7b0, x_try, a, show [2].contains 2 = true from rfl])
  have hi : evI C (.of 0 (.lst 1 [(.tup [(.str [88]), (.int 0)]), (.tup [(.str [76]), (.int 8)]), (.tup [(.str [76]), (.neg (.int 1))]), (.tup [(.str [76]), (.bl true)]), (.tup [.non, (.int 0)]), (.tup [(.str [108]), (.int 0)])])) [some sc, some d, some (.str w), some (.str lv), some (.int m), o5, o6, o7, o8, none, none, o11] = .ok (BAD2.map fun p => .tup [p.1, p.2]) [some sc, some d, some (.str w), some (.str lv), some (.int m), o5, o6, o7, o8, none, none, o11] := by
    simp -implicitDefEqProofs only [R.bind_ok', R.bind_ex', R.of_some, R.then_ok, R.then_ex, O.then_nx, O.then_rt, O.then_ex, O.then_ct, O.then_bk, getV0, getVs, tst_ok, tst_ex, R.of_none, e_non, e_bl, e_int, e_str, e_var, e_bv, e_gl, e_bin, e_neg, e_nt, e_an, e_or, e_cmp, e_chn, e_ite, e_lst, e_tup, e_idx, e_sl, e_rev, e_call, e_call0, e_callv, nox_ok, e_b1, e_b2, e_isi, e_m1, e_lrg, es_nil, es_cons, ea_nil, ea_io, ea_non, ea_bl, ea_int, ea_str, ea_var, ea_gl, ea_bin, ea_neg, ea_nt, ea_an, ea_or, ea_cmp, ea_chn, ea_ite, ea_lst, ea_tup, ea_idx, ea_sl, ea_rev, ea_call, ea_b1, ea_b2, ea_isi, ea_m1, ea_lrg, ea_cp, ea_mv, eo_none, eo_some, ec_none, ec_some, ei_of, ei_r1, ei_r2, x_ex, x_set, x_setT, x_par, x_sto, x_sto2, x_app1, x_augS, x_app, x_rvs, revv_l, revB_l, revB_s, x_aug, x_ret, x_retN, x_ite, x_raise, xh_nil, xh_cons, nxo_rt, nxo_nx, x_pass, x_brk, x_cnt, xs_nil, xs_cons, bop_add, bop_sub, bop_mul, bop_fdiv, bop_mod, bop_pow, bop_addl, bop_adds, bop_mull, bop_muls, aop_add, aop_sub, cop_eqi, cop_nei, cop_eqs, cop_nes, cop_eqb, cop_lt, cop_le, cop_gt, cop_ge, cop_lts, cop_les, cop_is, cop_isn, b1_lenl, b1_lent, b1_lens, b1_sum, b1_abs, b1_list, b1_listt, b1_lists, b1_tuple, idx_l, idxL_l, idx_t, idx_s, truth_bl, truth_int, truth_lst, truth_tup, truth_str, truth_non, at_nil, on_nil, items0, items1, items2, items3, set_nm, set_tp, sm_nil, sm_cons, av_nil', av_cons, avg_v, avg_io, pb_nil, pb_io, pb_v, hb_nil, hb_v, hb_io, do_call, hk_l, hk_t, hk_s, hk_i, hk_b, hk_n, fins_nil, fins_cons, b2_min, b2_max, cop_neb, slc_l, slc_s, slc_t, mty_join, mty_lindex, mty_sindex, mty_split, mty_scount, isTy_list, isTy_tuple, isTy_str, isTy_int, isTy_bi, e_sortR, e_xmin, on_slot, grd_pos, x_ext, out_rt, out_nx, out_ex, out1_rt, out1_nx, out1_ex, ex_nx, List.set_cons_zero, List.set_cons_succ, List.reverse_cons, List.reverse_nil, List.nil_append, List.cons_append, Option.map_some, Option.map_none, Bool.not_true, Bool.not_false, decide_true, decide_false, if_true, if_false, Bool.false_eq_true, Bool.true_and, Bool.and_true, Bool.false_and, Bool.and_false, Bool.true_or, Bool.or_true, Bool.false_or, Bool.or_false, not_true_eq_false, not_false_eq_true, and_true, true_and, PV.lf, PV.isNon, storeV, List.length_cons, List.length_nil, List.length_map, List.isEmpty_cons, List.isEmpty_nil, and_self, Int.natCast_zero, Bool.not_not, Nat.zero_add, Int.cast_ofNat_Int, Int.reduceLT, Int.reduceLE, Int.reduceAdd, Int.reduceSub, Int.reduceMul, Int.reduceNeg, Int.reduceBEq, Int.reduceBNe, Int.reduceDiv, Int.reduceMod, Int.reduceEq, Int.reduceToNat, Nat.reduceAdd, Nat.reduceLT, Nat.reduceLeDiff, reduceIte, Nat.reduceEqDiff, reduceCtorEq, Nat.reduceMul, Nat.reduceSub, Nat.reduceBEq, List.reduceReplicate, Int.reduceGT, Int.reduceGE, pix_0, pix_1, pix_2, pix_3, List.map_cons, List.map_nil, beq_self_eq_true, bne_self_eq_false, e_mv, BAD2, List.map_cons, List.map_nil]
  exact ⟨o', fr_ok hi g⟩
end My

namespace My
open Ev Ev.Pre
theorem st1 {C : Calls} (hC : Cs C) (sc d : PV) : ∃ o2 o3 o4, exS C xl1 [some sc, some d, none, none, none, none, none, none, none, none, none, none] = .nx [some sc, some d, o2, o3, o4, none, none, none, none, none, none, none] := by
  have h21 := hC.h21
  obtain ⟨e, g1, o2, o3, o4, rfl⟩ := forL_lst0 (f := bodyF C (.tp [2, 3, 4]) xl1b) AT (fun _ env => ∃ o2 o3 o4, env = [some sc, some d, o2, o3, o4, none, none, none, none, none, none, none]) (List.range 32) [some sc, some d, none, none, none, none, none, none, none, none, none, none] (fun done i rest env hd ⟨o2, o3, o4, he⟩ => by
    subst he
    have hi : i < 32 := List.mem_range.mp (by rw [hd]; simp)
    have c10 := hC.h10 i hi
    have ce := hC.eq (wd i)
    refine ⟨_, ?_, some (.str (wd i)), some (.str [lvl i]), some (.int (i % 8 : Nat)), rfl⟩
    unfold bodyF AT
    generalize wd i = W at *
    simp -implicitDefEqProofs only [R.bind_ok', R.bind_ex', R.of_some, R.then_ok, R.then_ex, O.then_nx, O.then_rt, O.then_ex, O.then_ct, O.then_bk, getV0, getVs, tst_ok, tst_ex, R.of_none, e_non, e_bl, e_int, e_str, e_var, e_bv, e_gl, e_bin, e_neg, e_nt, e_an, e_or, e_cmp, e_chn, e_ite, e_lst, e_tup, e_idx, e_sl, e_rev, e_call, e_call0, e_callv, nox_ok, e_b1, e_b2, e_isi, e_m1, e_lrg, es_nil, es_cons, ea_nil, ea_io, ea_non, ea_bl, ea_int, ea_str, ea_var, ea_gl, ea_bin, ea_neg, ea_nt, ea_an, ea_or, ea_cmp, ea_chn, ea_ite, ea_lst, ea_tup, ea_idx, ea_sl, ea_rev, ea_call, ea_b1, ea_b2, ea_isi, ea_m1, ea_lrg, ea_cp, ea_mv, eo_none, eo_some, ec_none, ec_some, ei_of, ei_r1, ei_r2, x_ex, x_set, x_setT, x_par, x_sto, x_sto2, x_app1, x_augS, x_app, x_rvs, revv_l, revB_l, revB_s, x_aug, x_ret, x_retN, x_ite, x_raise, xh_nil, xh_cons, nxo_rt, nxo_nx, x_pass, x_brk, x_cnt, xs_nil, xs_cons, bop_add, bop_sub, bop_mul, bop_fdiv, bop_mod, bop_pow, bop_addl, bop_adds, bop_mull, bop_muls, aop_add, aop_sub, cop_eqi, cop_nei, cop_eqs, cop_nes, cop_eqb, cop_lt, cop_le, cop_gt, cop_ge, cop_lts, cop_les, cop_is, cop_isn, b1_lenl, b1_lent, b1_lens, b1_sum, b1_abs, b1_list, b1_listt, b1_lists, b1_tuple, idx_l, idxL_l, idx_t, idx_s, truth_bl, truth_int, truth_lst, truth_tup, truth_str, truth_non, at_nil, on_nil, items0, items1, items2, items3, set_nm, set_tp, sm_nil, sm_cons, av_nil', av_cons, avg_v, avg_io, pb_nil, pb_io, pb_v, hb_nil, hb_v, hb_io, do_call, hk_l, hk_t, hk_s, hk_i, hk_b, hk_n, fins_nil, fins_cons, b2_min, b2_max, cop_neb, slc_l, slc_s, slc_t, mty_join, mty_lindex, mty_sindex, mty_split, mty_scount, isTy_list, isTy_tuple, isTy_str, isTy_int, isTy_bi, e_sortR, e_xmin, on_slot, grd_pos, x_ext, out_rt, out_nx, out_ex, out1_rt, out1_nx, out1_ex, ex_nx, List.set_cons_zero, List.set_cons_succ, List.reverse_cons, List.reverse_nil, List.nil_append, List.cons_append, Option.map_some, Option.map_none, Bool.not_true, Bool.not_false, decide_true, decide_false, if_true, if_false, Bool.false_eq_true, Bool.true_and, Bool.and_true, Bool.false_and, Bool.and_false, Bool.true_or, Bool.or_true, Bool.false_or, Bool.or_false, not_true_eq_false, not_false_eq_true, and_true, true_and, PV.lf, PV.isNon, storeV, List.length_cons, List.length_nil, List.length_map, List.isEmpty_cons, List.isEmpty_nil, and_self, Int.natCast_zero, Bool.not_not, Nat.zero_add, Int.cast_ofNat_Int, Int.reduceLT, Int.reduceLE, Int.reduceAdd, Int.reduceSub, Int.reduceMul, Int.reduceNeg, Int.reduceBEq, Int.reduceBNe, Int.reduceDiv, Int.reduceMod, Int.reduceEq, Int.reduceToNat, Nat.reduceAdd, Nat.reduceLT, Nat.reduceLeDiff, reduceIte, Nat.reduceEqDiff, reduceCtorEq, Nat.reduceMul, Nat.reduceSub, Nat.reduceBEq, List.reduceReplicate, Int.reduceGT, Int.reduceGE, pix_0, pix_1, pix_2, pix_3, List.map_cons, List.map_nil, beq_self_eq_true, bne_self_eq_false, e_mv, xl1b, xl1b0, c10, ce]) ⟨none, none, none, rfl⟩
  exact ⟨o2, o3, o4, fr_ok (e1 := [some sc, some d, none, none, none, none, none, none, none, none, none, none]) (xs := (List.range 32).map AT) (by simp -implicitDefEqProofs only [R.bind_ok', R.bind_ex', R.of_some, R.then_ok, R.then_ex, O.then_nx, O.then_rt, O.then_ex, O.then_ct, O.then_bk, getV0, getVs, tst_ok, tst_ex, R.of_none, e_non, e_bl, e_int, e_str, e_var, e_bv, e_gl, e_bin, e_neg, e_nt, e_an, e_or, e_cmp, e_chn, e_ite, e_lst, e_tup, e_idx, e_sl, e_rev, e_call, e_call0, e_callv, nox_ok, e_b1, e_b2, e_isi, e_m1, e_lrg, es_nil, es_cons, ea_nil, ea_io, ea_non, ea_bl, ea_int, ea_str, ea_var, ea_gl, ea_bin, ea_neg, ea_nt, ea_an, ea_or, ea_cmp, ea_chn, ea_ite, ea_lst, ea_tup, ea_idx, ea_sl, ea_rev, ea_call, ea_b1, ea_b2, ea_isi, ea_m1, ea_lrg, ea_cp, ea_mv, eo_none, eo_some, ec_none, ec_some, ei_of, ei_r1, ei_r2, x_ex, x_set, x_setT, x_par, x_sto, x_sto2, x_app1, x_augS, x_app, x_rvs, revv_l, revB_l, revB_s, x_aug, x_ret, x_retN, x_ite, x_raise, xh_nil, xh_cons, nxo_rt, nxo_nx, x_pass, x_brk, x_cnt, xs_nil, xs_cons, bop_add, bop_sub, bop_mul, bop_fdiv, bop_mod, bop_pow, bop_addl, bop_adds, bop_mull, bop_muls, aop_add, aop_sub, cop_eqi, cop_nei, cop_eqs, cop_nes, cop_eqb, cop_lt, cop_le, cop_gt, cop_ge, cop_lts, cop_les, cop_is, cop_isn, b1_lenl, b1_lent, b1_lens, b1_sum, b1_abs, b1_list, b1_listt, b1_lists, b1_tuple, idx_l, idxL_l, idx_t, idx_s, truth_bl, truth_int, truth_lst, truth_tup, truth_str, truth_non, at_nil, on_nil, items0, items1, items2, items3, set_nm, set_tp, sm_nil, sm_cons, av_nil', av_cons, avg_v, avg_io, pb_nil, pb_io, pb_v, hb_nil, hb_v, hb_io, do_call, hk_l, hk_t, hk_s, hk_i, hk_b, hk_n, fins_nil, fins_cons, b2_min, b2_max, cop_neb, slc_l, slc_s, slc_t, mty_join, mty_lindex, mty_sindex, mty_split, mty_scount, isTy_list, isTy_tuple, isTy_str, isTy_int, isTy_bi, e_sortR, e_xmin, on_slot, grd_pos, x_ext, out_rt, out_nx, out_ex, out1_rt, out1_nx, out1_ex, ex_nx, List.set_cons_zero, List.set_cons_succ, List.reverse_cons, List.reverse_nil, List.nil_append, List.cons_append, Option.map_some, Option.map_none, Bool.not_true, Bool.not_false, decide_true, decide_false, if_true, if_false, Bool.false_eq_true, Bool.true_and, Bool.and_true, Bool.false_and, Bool.and_false, Bool.true_or, Bool.or_true, Bool.false_or, Bool.or_false, not_true_eq_false, not_false_eq_true, and_true, true_and, PV.lf, PV.isNon, storeV, List.length_cons, List.length_nil, List.length_map, List.isEmpty_cons, List.isEmpty_nil, and_self, Int.natCast_zero, Bool.not_not, Nat.zero_add, Int.cast_ofNat_Int, Int.reduceLT, Int.reduceLE, Int.reduceAdd, Int.reduceSub, Int.reduceMul, Int.reduceNeg, Int.reduceBEq, Int.reduceBNe, Int.reduceDiv, Int.reduceMod, Int.reduceEq, Int.reduceToNat, Nat.reduceAdd, Nat.reduceLT, Nat.reduceLeDiff, reduceIte, Nat.reduceEqDiff, reduceCtorEq, Nat.reduceMul, Nat.reduceSub, Nat.reduceBEq, List.reduceReplicate, Int.reduceGT, Int.reduceGE, pix_0, pix_1, pix_2, pix_3, List.map_cons, List.map_nil, beq_self_eq_true, bne_self_eq_false, e_mv, h21, ALL]) g1⟩
theorem pix_ALL {i : Nat} (h : i < 32) : pix ALL (i : Int) = some (AT i) := by
  unfold pix ALL
  rw [if_pos (by omega), Int.toNat_natCast]
  simp [h]
theorem st2 {C : Calls} (hC : Cs C) (sc : PV) {d : PV} (D : Draws d) (o2 o3 o4 : Option PV) : ∃ d' i, i < 32 ∧ exS C xl2 [some sc, some d, o2, o3, o4, none, none, none, none, none, none, none] = .nx [some sc, some d', some (.str (wd i)), some (.str [lvl i]), some (.int (i % 8 : Nat)), none, none, none, none, none, none, none] ∧ Draws d' := by
  have h21 := hC.h21
  obtain ⟨r1, d1, c, a1, a2, D1⟩ := hC.D d D 32 (by decide)
  obtain ⟨i, rfl⟩ : ∃ i : Nat, r1 = (i : Int) := ⟨r1.toNat, by omega⟩
  have hi : i < 32 := by omega
  have p := pix_ALL hi
  refine ⟨d1, i, hi, ?_, D1⟩
  have e : evE C (.idx (.call0 21) (.call 16 [(.io 1), (.int 32)])) [some sc, some d, o2, o3, o4, none, none, none, none, none, none, none] = .ok (AT i) [some sc, some d1, o2, o3, o4, none, none, none, none, none, none, none] := by
    generalize ALL = A at *
    generalize AT i = B at *
    simp -implicitDefEqProofs only [R.bind_ok', R.bind_ex', R.of_some, R.then_ok, R.then_ex, O.then_nx, O.then_rt, O.then_ex, O.then_ct, O.then_bk, getV0, getVs, tst_ok, tst_ex, R.of_none, e_non, e_bl, e_int, e_str, e_var, e_bv, e_gl, e_bin, e_neg, e_nt, e_an, e_or, e_cmp, e_chn, e_ite, e_lst, e_tup, e_idx, e_sl, e_rev, e_call, e_call0, e_callv, nox_ok, e_b1, e_b2, e_isi, e_m1, e_lrg, es_nil, es_cons, ea_nil, ea_io, ea_non, ea_bl, ea_int, ea_str, ea_var, ea_gl, ea_bin, ea_neg, ea_nt, ea_an, ea_or, ea_cmp, ea_chn, ea_ite, ea_lst, ea_tup, ea_idx, ea_sl, ea_rev, ea_call, ea_b1, ea_b2, ea_isi, ea_m1, ea_lrg, ea_cp, ea_mv, eo_none, eo_some, ec_none, ec_some, ei_of, ei_r1, ei_r2, x_ex, x_set, x_setT, x_par, x_sto, x_sto2, x_app1, x_augS, x_app, x_rvs, revv_l, revB_l, revB_s, x_aug, x_ret, x_retN, x_ite, x_raise, xh_nil, xh_cons, nxo_rt, nxo_nx, x_pass, x_brk, x_cnt, xs_nil, xs_cons, bop_add, bop_sub, bop_mul, bop_fdiv, bop_mod, bop_pow, bop_addl, bop_adds, bop_mull, bop_muls, aop_add, aop_sub, cop_eqi, cop_nei, cop_eqs, cop_nes, cop_eqb, cop_lt, cop_le, cop_gt, cop_ge, cop_lts, cop_les, cop_is, cop_isn, b1_lenl, b1_lent, b1_lens, b1_sum, b1_abs, b1_list, b1_listt, b1_lists, b1_tuple, idx_l, idxL_l, idx_t, idx_s, truth_bl, truth_int, truth_lst, truth_tup, truth_str, truth_non, at_nil, on_nil, items0, items1, items2, items3, set_nm, set_tp, sm_nil, sm_cons, av_nil', av_cons, avg_v, avg_io, pb_nil, pb_io, pb_v, hb_nil, hb_v, hb_io, do_call, hk_l, hk_t, hk_s, hk_i, hk_b, hk_n, fins_nil, fins_cons, b2_min, b2_max, cop_neb, slc_l, slc_s, slc_t, mty_join, mty_lindex, mty_sindex, mty_split, mty_scount, isTy_list, isTy_tuple, isTy_str, isTy_int, isTy_bi, e_sortR, e_xmin, on_slot, grd_pos, x_ext, out_rt, out_nx, out_ex, out1_rt, out1_nx, out1_ex, ex_nx, List.set_cons_zero, List.set_cons_succ, List.reverse_cons, List.reverse_nil, List.nil_append, List.cons_append, Option.map_some, Option.map_none, Bool.not_true, Bool.not_false, decide_true, decide_false, if_true, if_false, Bool.false_eq_true, Bool.true_and, Bool.and_true, Bool.false_and, Bool.and_false, Bool.true_or, Bool.or_true, Bool.false_or, Bool.or_false, not_true_eq_false, not_false_eq_true, and_true, true_and, PV.lf, PV.isNon, storeV, List.length_cons, List.length_nil, List.length_map, List.isEmpty_cons, List.isEmpty_nil, and_self, Int.natCast_zero, Bool.not_not, Nat.zero_add, Int.cast_ofNat_Int, Int.reduceLT, Int.reduceLE, Int.reduceAdd, Int.reduceSub, Int.reduceMul, Int.reduceNeg, Int.reduceBEq, Int.reduceBNe, Int.reduceDiv, Int.reduceMod, Int.reduceEq, Int.reduceToNat, Nat.reduceAdd, Nat.reduceLT, Nat.reduceLeDiff, reduceIte, Nat.reduceEqDiff, reduceCtorEq, Nat.reduceMul, Nat.reduceSub, Nat.reduceBEq, List.reduceReplicate, Int.reduceGT, Int.reduceGE, pix_0, pix_1, pix_2, pix_3, List.map_cons, List.map_nil, beq_self_eq_true, bne_self_eq_false, e_mv, h21, c, p]
  unfold xl2
  rw [x_setT, e]
  rfl
theorem st3 {C : Calls} (hC : Cs C) (sc : PV) {d : PV} (D : Draws d) {w : List Nat} (lv : List Nat) (m : Int) (hw : G01 w) : ∃ d' o5 o6 o7 o8, exS C xl3 [some sc, some d, some (.str w), some (.str lv), some (.int m), none, none, none, none, none, none, none] = .nx [some sc, some d', some (.str w), some (.str lv), some (.int m), o5, o6, o7, o8, none, none, none] ∧ Draws d' := by
  obtain ⟨d1, p1, q1, r1, t1, D1⟩ := many_turn hC sc D lv m hw (q := 0) (by decide) none none none none
  obtain ⟨d2, p2, q2, r2, t2, D2⟩ := many_turn hC sc D1 lv m hw (q := 1) (by decide) (some (.int (0 : Nat))) p1 q1 r1
  obtain ⟨d3, p3, q3, r3, t3, D3⟩ := many_turn hC sc D2 lv m hw (q := 2) (by decide) (some (.int (1 : Nat))) p2 q2 r2
  obtain ⟨d4, p4, q4, r4, t4, D4⟩ := many_turn hC sc D3 lv m hw (q := 3) (by decide) (some (.int (2 : Nat))) p3 q3 r3
  obtain ⟨d5, p5, q5, r5, t5, D5⟩ := many_turn hC sc D4 lv m hw (q := 4) (by decide) (some (.int (3 : Nat))) p4 q4 r4
  obtain ⟨d6, p6, q6, r6, t6, D6⟩ := many_turn hC sc D5 lv m hw (q := 6) (by decide) (some (.int (4 : Nat))) p5 q5 r5
  have ei : evI C (.of 0 (.lst 1 [(.int 0), (.int 1), (.int 2), (.int 3), (.int 4), (.int 6)])) [some sc, some d, some (.str w), some (.str lv), some (.int m), none, none, none, none, none, none, none] = .ok [.int (0 : Nat), .int (1 : Nat), .int (2 : Nat), .int (3 : Nat), .int (4 : Nat), .int (6 : Nat)] [some sc, some d, some (.str w), some (.str lv), some (.int m), none, none, none, none, none, none, none] := by
    simp -implicitDefEqProofs only [R.bind_ok', R.bind_ex', R.of_some, R.then_ok, R.then_ex, O.then_nx, O.then_rt, O.then_ex, O.then_ct, O.then_bk, getV0, getVs, tst_ok, tst_ex, R.of_none, e_non, e_bl, e_int, e_str, e_var, e_bv, e_gl, e_bin, e_neg, e_nt, e_an, e_or, e_cmp, e_chn, e_ite, e_lst, e_tup, e_idx, e_sl, e_rev, e_call, e_call0, e_callv, nox_ok, e_b1, e_b2, e_isi, e_m1, e_lrg, es_nil, es_cons, ea_nil, ea_io, ea_non, ea_bl, ea_int, ea_str, ea_var, ea_gl, ea_bin, ea_neg, ea_nt, ea_an, ea_or, ea_cmp, ea_chn, ea_ite, ea_lst, ea_tup, ea_idx, ea_sl, ea_rev, ea_call, ea_b1, ea_b2, ea_isi, ea_m1, ea_lrg, ea_cp, ea_mv, eo_none, eo_some, ec_none, ec_some, ei_of, ei_r1, ei_r2, x_ex, x_set, x_setT, x_par, x_sto, x_sto2, x_app1, x_augS, x_app, x_rvs, revv_l, revB_l, revB_s, x_aug, x_ret, x_retN, x_ite, x_raise, xh_nil, xh_cons, nxo_rt, nxo_nx, x_pass, x_brk, x_cnt, xs_nil, xs_cons, bop_add, bop_sub, bop_mul, bop_fdiv, bop_mod, bop_pow, bop_addl, bop_adds, bop_mull, bop_muls, aop_add, aop_sub, cop_eqi, cop_nei, cop_eqs, cop_nes, cop_eqb, cop_lt, cop_le, cop_gt, cop_ge, cop_lts, cop_les, cop_is, cop_isn, b1_lenl, b1_lent, b1_lens, b1_sum, b1_abs, b1_list, b1_listt, b1_lists, b1_tuple, idx_l, idxL_l, idx_t, idx_s, truth_bl, truth_int, truth_lst, truth_tup, truth_str, truth_non, at_nil, on_nil, items0, items1, items2, items3, set_nm, set_tp, sm_nil, sm_cons, av_nil', av_cons, avg_v, avg_io, pb_nil, pb_io, pb_v, hb_nil, hb_v, hb_io, do_call, hk_l, hk_t, hk_s, hk_i, hk_b, hk_n, fins_nil, fins_cons, b2_min, b2_max, cop_neb, slc_l, slc_s, slc_t, mty_join, mty_lindex, mty_sindex, mty_split, mty_scount, isTy_list, isTy_tuple, isTy_str, isTy_int, isTy_bi, e_sortR, e_xmin, on_slot, grd_pos, x_ext, out_rt, out_nx, out_ex, out1_rt, out1_nx, out1_ex, ex_nx, List.set_cons_zero, List.set_cons_succ, List.reverse_cons, List.reverse_nil, List.nil_append, List.cons_append, Option.map_some, Option.map_none, Bool.not_true, Bool.not_false, decide_true, decide_false, if_true, if_false, Bool.false_eq_true, Bool.true_and, Bool.and_true, Bool.false_and, Bool.and_false, Bool.true_or, Bool.or_true, Bool.false_or, Bool.or_false, not_true_eq_false, not_false_eq_true, and_true, true_and, PV.lf, PV.isNon, storeV, List.length_cons, List.length_nil, List.length_map, List.isEmpty_cons, List.isEmpty_nil, and_self, Int.natCast_zero, Bool.not_not, Nat.zero_add, Int.cast_ofNat_Int, Int.reduceLT, Int.reduceLE, Int.reduceAdd, Int.reduceSub, Int.reduceMul, Int.reduceNeg, Int.reduceBEq, Int.reduceBNe, Int.reduceDiv, Int.reduceMod, Int.reduceEq, Int.reduceToNat, Nat.reduceAdd, Nat.reduceLT, Nat.reduceLeDiff, reduceIte, Nat.reduceEqDiff, reduceCtorEq, Nat.reduceMul, Nat.reduceSub, Nat.reduceBEq, List.reduceReplicate, Int.reduceGT, Int.reduceGE, pix_0, pix_1, pix_2, pix_3, List.map_cons, List.map_nil, beq_self_eq_true, bne_self_eq_false, e_mv]
    first | done | rfl
  exact ⟨d6, some (.int (6 : Nat)), p6, q6, r6, fr_ok ei (fl_nx t1 (fl_nx t2 (fl_nx t3 (fl_nx t4 (fl_nx t5 (fl_nx t6 rfl)))))), D6⟩
theorem law_run {C : Calls} (hC : Cs C) (sc : PV) {l0 : List Int} (h15 : C 15 [sc] = .ok (.lst (l0.map .int)) []) (D0 : Draws (.lst [.lst (l0.map .int), .int 0])) : runF f_law C [sc] = .ok (.bl true) [] := by
  refine (runF0 (vs := [sc]) rfl).trans ?_
  show outF0 (exSs C xl [some sc, none, none, none, none, none, none, none, none, none, none, none]) = _
  have s0 : exS C xl0 [some sc, none, none, none, none, none, none, none, none, none, none, none] = .nx [some sc, some (.lst [.lst (l0.map .int), .int 0]), none, none, none, none, none, none, none, none, none, none] := by simp -implicitDefEqProofs only [R.bind_ok', R.bind_ex', R.of_some, R.then_ok, R.then_ex, O.then_nx, O.then_rt, O.then_ex, O.then_ct, O.then_bk, getV0, getVs, tst_ok, tst_ex, R.of_none, e_non, e_bl, e_int, e_str, e_var, e_bv, e_gl, e_bin, e_neg, e_nt, e_an, e_or, e_cmp, e_chn, e_ite, e_lst, e_tup, e_idx, e_sl, e_rev, e_call, e_call0, e_callv, nox_ok, e_b1, e_b2, e_isi, e_m1, e_lrg, es_nil, es_cons, ea_nil, ea_io, ea_non, ea_bl, ea_int, ea_str, ea_var, ea_gl, ea_bin, ea_neg, ea_nt, ea_an, ea_or, ea_cmp, ea_chn, ea_ite, ea_lst, ea_tup, ea_idx, ea_sl, ea_rev, ea_call, ea_b1, ea_b2, ea_isi, ea_m1, ea_lrg, ea_cp, ea_mv, eo_none, eo_some, ec_none, ec_some, ei_of, ei_r1, ei_r2, x_ex, x_set, x_setT, x_par, x_sto, x_sto2, x_app1, x_augS, x_app, x_rvs, revv_l, revB_l, revB_s, x_aug, x_ret, x_retN, x_ite, x_raise, xh_nil, xh_cons, nxo_rt, nxo_nx, x_pass, x_brk, x_cnt, xs_nil, xs_cons, bop_add, bop_sub, bop_mul, bop_fdiv, bop_mod, bop_pow, bop_addl, bop_adds, bop_mull, bop_muls, aop_add, aop_sub, cop_eqi, cop_nei, cop_eqs, cop_nes, cop_eqb, cop_lt, cop_le, cop_gt, cop_ge, cop_lts, cop_les, cop_is, cop_isn, b1_lenl, b1_lent, b1_lens, b1_sum, b1_abs, b1_list, b1_listt, b1_lists, b1_tuple, idx_l, idxL_l, idx_t, idx_s, truth_bl, truth_int, truth_lst, truth_tup, truth_str, truth_non, at_nil, on_nil, items0, items1, items2, items3, set_nm, set_tp, sm_nil, sm_cons, av_nil', av_cons, avg_v, avg_io, pb_nil, pb_io, pb_v, hb_nil, hb_v, hb_io, do_call, hk_l, hk_t, hk_s, hk_i, hk_b, hk_n, fins_nil, fins_cons, b2_min, b2_max, cop_neb, slc_l, slc_s, slc_t, mty_join, mty_lindex, mty_sindex, mty_split, mty_scount, isTy_list, isTy_tuple, isTy_str, isTy_int, isTy_bi, e_sortR, e_xmin, on_slot, grd_pos, x_ext, out_rt, out_nx, out_ex, out1_rt, out1_nx, out1_ex, ex_nx, List.set_cons_zero, List.set_cons_succ, List.reverse_cons, List.reverse_nil, List.nil_append, List.cons_append, Option.map_some, Option.map_none, Bool.not_true, Bool.not_false, decide_true, decide_false, if_true, if_false, Bool.false_eq_true, Bool.true_and, Bool.and_true, Bool.false_and, Bool.and_false, Bool.true_or, Bool.or_true, Bool.false_or, Bool.or_false, not_true_eq_false, not_false_eq_true, and_true, true_and, PV.lf, PV.isNon, storeV, List.length_cons, List.length_nil, List.length_map, List.isEmpty_cons, List.isEmpty_nil, and_self, Int.natCast_zero, Bool.not_not, Nat.zero_add, Int.cast_ofNat_Int, Int.reduceLT, Int.reduceLE, Int.reduceAdd, Int.reduceSub, Int.reduceMul, Int.reduceNeg, Int.reduceBEq, Int.reduceBNe, Int.reduceDiv, Int.reduceMod, Int.reduceEq, Int.reduceToNat, Nat.reduceAdd, Nat.reduceLT, Nat.reduceLeDiff, reduceIte, Nat.reduceEqDiff, reduceCtorEq, Nat.reduceMul, Nat.reduceSub, Nat.reduceBEq, List.reduceReplicate, Int.reduceGT, Int.reduceGE, pix_0, pix_1, pix_2, pix_3, List.map_cons, List.map_nil, beq_self_eq_true, bne_self_eq_false, e_mv, xl0, h15]
  obtain ⟨o2, o3, o4, s1⟩ := st1 hC sc (.lst [.lst (l0.map .int), .int 0])
  obtain ⟨d2, i, hi, s2, D2⟩ := st2 hC sc D0 o2 o3 o4
  obtain ⟨d3, o5, o6, o7, o8, s3, D3⟩ := st3 hC sc D2 [lvl i] ((i % 8 : Nat) : Int) (wd_good hi)
  obtain ⟨d4, s, s4, D4, hs⟩ := st4 hC sc D3 (wd i) [lvl i] ((i % 8 : Nat) : Int) o5 o6 o7 o8
  have s5 := st5 hC sc d4 hi [lvl i] ((i % 8 : Nat) : Int) hs o5 o7 o8
  obtain ⟨q, s6⟩ := st6 hC sc d4 (wd i) [lvl i] ((i % 8 : Nat) : Int) o5 (some (.str s)) o7 o8
  obtain ⟨q', s7⟩ := st7 hC sc d4 (wd i) [lvl i] ((i % 8 : Nat) : Int) o5 (some (.str s)) o7 o8 q
  unfold xl
  rw [xs_cons, s0, O.then_nx, xs_cons, s1, O.then_nx, xs_cons, s2, O.then_nx, xs_cons, s3, O.then_nx, xs_cons, s4, O.then_nx, xs_cons, s5, O.then_nx, xs_cons, s6, O.then_nx, xs_cons, s7, O.then_nx]
  simp -implicitDefEqProofs only [R.bind_ok', R.bind_ex', R.of_some, R.then_ok, R.then_ex, O.then_nx, O.then_rt, O.then_ex, O.then_ct, O.then_bk, getV0, getVs, tst_ok, tst_ex, R.of_none, e_non, e_bl, e_int, e_str, e_var, e_bv, e_gl, e_bin, e_neg, e_nt, e_an, e_or, e_cmp, e_chn, e_ite, e_lst, e_tup, e_idx, e_sl, e_rev, e_call, e_call0, e_callv, nox_ok, e_b1, e_b2, e_isi, e_m1, e_lrg, es_nil, es_cons, ea_nil, ea_io, ea_non, ea_bl, ea_int, ea_str, ea_var, ea_gl, ea_bin, ea_neg, ea_nt, ea_an, ea_or, ea_cmp, ea_chn, ea_ite, ea_lst, ea_tup, ea_idx, ea_sl, ea_rev, ea_call, ea_b1, ea_b2, ea_isi, ea_m1, ea_lrg, ea_cp, ea_mv, eo_none, eo_some, ec_none, ec_some, ei_of, ei_r1, ei_r2, x_ex, x_set, x_setT, x_par, x_sto, x_sto2, x_app1, x_augS, x_app, x_rvs, revv_l, revB_l, revB_s, x_aug, x_ret, x_retN, x_ite, x_raise, xh_nil, xh_cons, nxo_rt, nxo_nx, x_pass, x_brk, x_cnt, xs_nil, xs_cons, bop_add, bop_sub, bop_mul, bop_fdiv, bop_mod, bop_pow, bop_addl, bop_adds, bop_mull, bop_muls, aop_add, aop_sub, cop_eqi, cop_nei, cop_eqs, cop_nes, cop_eqb, cop_lt, cop_le, cop_gt, cop_ge, cop_lts, cop_les, cop_is, cop_isn, b1_lenl, b1_lent, b1_lens, b1_sum, b1_abs, b1_list, b1_listt, b1_lists, b1_tuple, idx_l, idxL_l, idx_t, idx_s, truth_bl, truth_int, truth_lst, truth_tup, truth_str, truth_non, at_nil, on_nil, items0, items1, items2, items3, set_nm, set_tp, sm_nil, sm_cons, av_nil', av_cons, avg_v, avg_io, pb_nil, pb_io, pb_v, hb_nil, hb_v, hb_io, do_call, hk_l, hk_t, hk_s, hk_i, hk_b, hk_n, fins_nil, fins_cons, b2_min, b2_max, cop_neb, slc_l, slc_s, slc_t, mty_join, mty_lindex, mty_sindex, mty_split, mty_scount, isTy_list, isTy_tuple, isTy_str, isTy_int, isTy_bi, e_sortR, e_xmin, on_slot, grd_pos, x_ext, out_rt, out_nx, out_ex, out1_rt, out1_nx, out1_ex, ex_nx, List.set_cons_zero, List.set_cons_succ, List.reverse_cons, List.reverse_nil, List.nil_append, List.cons_append, Option.map_some, Option.map_none, Bool.not_true, Bool.not_false, decide_true, decide_false, if_true, if_false, Bool.false_eq_true, Bool.true_and, Bool.and_true, Bool.false_and, Bool.and_false, Bool.true_or, Bool.or_true, Bool.false_or, Bool.or_false, not_true_eq_false, not_false_eq_true, and_true, true_and, PV.lf, PV.isNon, storeV, List.length_cons, List.length_nil, List.length_map, List.isEmpty_cons, List.isEmpty_nil, and_self, Int.natCast_zero, Bool.not_not, Nat.zero_add, Int.cast_ofNat_Int, Int.reduceLT, Int.reduceLE, Int.reduceAdd, Int.reduceSub, Int.reduceMul, Int.reduceNeg, Int.reduceBEq, Int.reduceBNe, Int.reduceDiv, Int.reduceMod, Int.reduceEq, Int.reduceToNat, Nat.reduceAdd, Nat.reduceLT, Nat.reduceLeDiff, reduceIte, Nat.reduceEqDiff, reduceCtorEq, Nat.reduceMul, Nat.reduceSub, Nat.reduceBEq, List.reduceReplicate, Int.reduceGT, Int.reduceGE, pix_0, pix_1, pix_2, pix_3, List.map_cons, List.map_nil, beq_self_eq_true, bne_self_eq_false, e_mv, xl8]
theorem law_ok (ns : List Int) (hn : ns.length ≤ 63) : callF T 25 23 [.obj 0 (ns.map .int)] = .ok (.bl true) [] := by
  obtain ⟨l, h1, h2⟩ := law_start ns hn
  exact (lv23 24 _).trans (law_run cs24 _ h1 h2)
end My

open PySem PySem.W PySem.Calls PyProof.Rows
theorem PySem.Challenge.cw_everyscan_k53_format_words_holds : PySem.Challenge.rw_everyscan_k53_format_words.Holds := by
  w_on; o_law
  refine HandSHeadRun.head_any (r := OpenLaw.row PySem.Challenge.rw_everyscan_k53_format_words) (q := view (OpenLaw.row PySem.Challenge.rw_everyscan_k53_format_words).prog [39]) (H := My.hk) (ob := My.ob) (M := 40000) (loose := My.loose) (d := HandSHeadRun.topDef (OpenLaw.row PySem.Challenge.rw_everyscan_k53_format_words).prog 39) (kwd := []) My.ob_eq
    (by kernel_rfl) (fun s => by kernel_rfl) My.run (by kernel_rfl) (by kernel_rfl) (by kernel_rfl) (by rfl) (by first | assumption | decide +kernel) (by decide +kernel) ⟨rfl, rfl, rfl, rfl, rfl, by decide +kernel⟩ ?hw ?hc
  case hw => w_witness2
  case hc =>
    refine L2.walk_ofE (l := PySem.Challenge.rw_everyscan_k53_format_words) (n := 63) (k := 25) (x := "script") (CX := L2.CX0) rfl (by decide) (by kernel_rfl) ⟨rfl, by decide, by decide⟩ ?F (fun _ _ _ _ z => z)
    intro w mg fa h Y G hmg0
    obtain ⟨K, KX, c, cx⟩ := Y
    have hmg : mg ("law" : PySem.Str) = some (.ref fa) := by
      have e : (HandSHeadRun.topDef (OpenLaw.row PySem.Challenge.rw_everyscan_k53_format_words).prog 39).name = ("law" : PySem.Str) := by kernel_rfl
      rw [← e]
      exact hmg0
    have g := My.gs_of KX G c cx
    obtain ⟨fd, F⟩ := c.def_ 23 (d := My.d_law) rfl
    have ea : fa = (My.dm K).fa 23 := by
      have e := hmg.symm.trans g.m_law
      cases e
      rfl
    subst ea
    have b := L2.FunD.bindsA (ps := ["script"]) F fun _ _ _ _ _ _ us hl => match us, hl with | [_], _ => rfl
    exact ⟨K, fd, fun vs H Q _ => Ev.spF (My.dm K) (Ev.callF My.T 25) 23 [false] [0] 0 vs H Q (fun _ _ _ => False), KX, fun s v => b s [v] rfl, fun H a ns hl _ hS => Ev.law_sp (D := My.dm K) (My.law_ok ns hl) hS, fun base _ _ => My.fn_law (P := (PySem.Challenge.rw_everyscan_k53_format_words).prog) (w := w) g c F 24⟩
