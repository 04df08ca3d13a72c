import PyProof.Rows.All
import HandS.ForMost
import HandS.ForExc
import HandS.ExcCtx
import HandS.HotCalls
import HandS.Wide
import HandS.Lambda
import HandS.Conv
import HandS.Style
import HandS.TupAny
import HandS.Deep
import HandS.IsInst
import HandS.Zip
import HandS.Ends
import KE.GoesEnum
import HandS.Replace
import HandS.Text
import HandS.Codes
import HandS.RaiseMore
import PyProof.SliceStr2
import KE.KRevSl
import HandS.SortInts
import HandS.StrMore
import PyProof.ListStr
import PySem.Challenge.RW_numeralbook_k50_whole_growing
set_option Elab.async false
section
set_option linter.all false
set_option autoImplicit false
/-! NBCore: Python values without a heap, and the constructs of Python as functions on them. -/
namespace NB

/-- a key of a dict -/
inductive Ky where
  | i (k : Int) | s (x : List Nat)
  deriving DecidableEq

/-- a value, all through -/
inductive D where
  | non | bl (b : Bool) | int (i : Int) | str (x : List Nat)
  | lst (xs : List D) | tup (xs : List D) | dic (ks : List Ky) (vs : List D)
  | exo (c : Nat) | clo (n : Nat) (caps : List D)
  /-- a list, a dict that is locked -/
  | fzl (xs : List D) | fzd (ks : List Ky) (vs : List D)

inductive Res (α : Type) where
  | ok (a : α) | exc (c : Nat) | stuck

namespace Res
variable {α β : Type}
def bind (r : Res α) (f : α → Res β) : Res β :=
  match r with
  | .ok a => f a
  | .exc c => .exc c
  | .stuck => .stuck
theorem bind_ok (a : α) (f : α → Res β) : bind (.ok a) f = f a := rfl
end Res
open Res

/-- what a slot holds: a value that others may hold, too; or a list (a dict) that this slot alone holds -/
inductive SV where
  | sh (d : D) | own (d : D)
abbrev Env := List (Option SV)
abbrev DE := Env → Res D
abbrev DT := Env → Res Bool
abbrev DI := Env → Res (List D)
abbrev DG := D → Env → Res Env

inductive Out where
  | nx (ρ : Env) | rt (d : D) | bk (ρ : Env) | ct (ρ : Env) | exc (c : Nat) (ρ : Env) | stuck
abbrev DS := Env → Out

abbrev line : Nat := 16777216

/-! ### lifting -/
def e1 (f : D → Res D) (a : DE) : DE := fun ρ => (a ρ).bind f
def e2 (f : D → D → Res D) (a b : DE) : DE := fun ρ => (a ρ).bind fun x => (b ρ).bind fun y => f x y
/-- an argument list -/
def args : List DE → Env → Res (List D)
  | [], _ => .ok []
  | a :: as, ρ => (a ρ).bind fun x => (args as ρ).bind fun xs => .ok (x :: xs)
def eN (f : List D → Res D) (as : List DE) : DE := fun ρ => (args as ρ).bind f

/-- a method with one argument, of the values that p takes -/
def eM1 (p : D → Bool) (op : D → D → Res D) (a b : DE) : DE := fun ρ => (a ρ).bind fun x => if p x = true then (b ρ).bind fun y => op x y else .stuck
def isTx : D → Bool
  | .str _ => true
  | _ => false
def isTL : D → Bool
  | .str _ => true
  | .lst _ => true
  | _ => false
/-! ### names and constants -/
def eVar (i : Nat) : DE := fun ρ =>
  match ρ[i]? with
  | some (some (.sh d)) => .ok d
  | _ => .stuck
/-- the slot's value, where it is not held on -/
def eOwn (i : Nat) : DE := fun ρ =>
  match ρ[i]? with
  | some (some (.sh d)) => .ok d
  | some (some (.own d)) => .ok d
  | _ => .stuck
def eC (d : D) : DE := fun _ => .ok d

/-! ### operators -/
def mulOk (i j : Int) : Bool := decide (i.natAbs < 18446744073709551616) || decide (j.natAbs < 18446744073709551616) || decide (i.natAbs.log2 + j.natAbs.log2 < 1000000)
def dAdd : D → D → Res D
  | .int i, .int j => .ok (.int (i + j))
  | .str x, .str y => if x.length + y.length ≤ line then .ok (.str (x ++ y)) else .stuck
  | .lst x, .lst y => if x.length + y.length ≤ line then .ok (.lst (x ++ y)) else .stuck
  | .tup x, .tup y => if x.length + y.length ≤ line then .ok (.tup (x ++ y)) else .stuck
  | _, _ => .stuck
def dSub : D → D → Res D
  | .int i, .int j => .ok (.int (i - j))
  | _, _ => .stuck
def repl {α : Type} (n : Nat) (x : List α) : List α :=
  match n with
  | 0 => []
  | n + 1 => x ++ repl n x
def dMul : D → D → Res D
  | .int i, .int j => if mulOk i j then .ok (.int (i * j)) else .stuck
  | .str x, .int j => if x.length * j.toNat ≤ line ∧ -9223372036854775808 ≤ j ∧ j < 9223372036854775808 then .ok (.str (repl j.toNat x)) else .stuck
  | .lst x, .int j => if x.length * j.toNat ≤ line ∧ -9223372036854775808 ≤ j ∧ j < 9223372036854775808 then .ok (.lst (repl j.toNat x)) else .stuck
  | _, _ => .stuck
def divOk (j : Int) : Bool := decide (0 < j) && decide (j.natAbs.log2 < 9000)
def dDiv : D → D → Res D
  | .int i, .int j => if divOk j then .ok (.int (i / j)) else .stuck
  | _, _ => .stuck
def dMod : D → D → Res D
  | .int i, .int j => if 0 < j then .ok (.int (i % j)) else .stuck
  | _, _ => .stuck
def dPow : D → D → Res D
  | .int i, .int j => if 0 ≤ j ∧ j ≤ 1000000 ∧ i.natAbs < 18446744073709551616 then .ok (.int (i ^ j.toNat)) else .stuck
  | _, _ => .stuck
/-- ^ of 0 and 1 -/
def dXor : D → D → Res D
  | .int i, .int j => if (i = 0 ∨ i = 1) ∧ (j = 0 ∨ j = 1) then .ok (.int (if i = j then 0 else 1)) else .stuck
  | _, _ => .stuck
def dNeg : D → Res D
  | .int i => .ok (.int (-i))
  | _ => .stuck

/-! ### == -/
mutual
def D.eqv : D → D → Bool
  | .non, .non => true
  | .bl a, .bl b => a == b
  | .bl a, .int j => (if a then 1 else 0) == j
  | .int i, .bl b => i == (if b then 1 else 0)
  | .int i, .int j => i == j
  | .str x, .str y => x == y
  | .lst xs, .lst ys => D.eqvAll xs ys
  | .tup xs, .tup ys => D.eqvAll xs ys
  | .fzl xs, .lst ys => D.eqvAll xs ys
  | .lst xs, .fzl ys => D.eqvAll xs ys
  | .fzl xs, .fzl ys => D.eqvAll xs ys
  | _, _ => false
def D.eqvAll : List D → List D → Bool
  | [], [] => true
  | x :: xs, y :: ys => D.eqv x y && D.eqvAll xs ys
  | _, _ => false
end
mutual
/-- data that == takes -/
def D.lay : Nat → D → Bool
  | _, .non => true
  | _, .bl _ => true
  | _, .int _ => true
  | _, .str x => x.all fun c => decide (c < 1114112)
  | 0, .lst _ => false
  | 0, .tup _ => false
  | 0, .fzl _ => false
  | n + 1, .fzl xs => D.layAll n xs
  | n + 1, .lst xs => D.layAll n xs
  | n + 1, .tup xs => D.layAll n xs
  | _, _ => false
def D.layAll : Nat → List D → Bool
  | _, [] => true
  | n, x :: xs => D.lay n x && D.layAll n xs
end
def scalD : D → D → Bool
  | .non, .non => true
  | .non, .int _ => true
  | .int _, .non => true
  | .non, .bl _ => true
  | .bl _, .non => true
  | .non, .str _ => true
  | .str _, .non => true
  | .int _, .int _ => true
  | .bl _, .bl _ => true
  | .str _, .str _ => true
  | .int _, .str _ => true
  | .str _, .int _ => true
  | .bl _, .str _ => true
  | .str _, .bl _ => true
  | _, _ => false
def dEq (x y : D) : Res D :=
  if scalD x y || (x.lay 20 && y.lay 20) then .ok (.bl (x.eqv y)) else .stuck
def dNe (x y : D) : Res D := if scalD x y || (x.lay 20 && y.lay 20) then .ok (.bl (!x.eqv y)) else .stuck
def ltN : List Nat → List Nat → Bool
  | [], [] => false
  | [], _ :: _ => true
  | _ :: _, [] => false
  | x :: xs, y :: ys => if x = y then ltN xs ys else decide (x < y)
def dLt : D → D → Res D
  | .int i, .int j => .ok (.bl (decide (i < j)))
  | .str x, .str y => .ok (.bl (ltN x y))
  | _, _ => .stuck
def dLe : D → D → Res D
  | .int i, .int j => .ok (.bl (decide (i ≤ j)))
  | .str x, .str y => .ok (.bl (!ltN y x))
  | _, _ => .stuck
def dGt : D → D → Res D
  | .int i, .int j => .ok (.bl (decide (j < i)))
  | .str x, .str y => .ok (.bl (ltN y x))
  | _, _ => .stuck
def dGe : D → D → Res D
  | .int i, .int j => .ok (.bl (decide (j ≤ i)))
  | .str x, .str y => .ok (.bl (!ltN x y))
  | _, _ => .stuck
/-- is None -/
def dIsN : D → D → Res D
  | .non, .non => .ok (.bl true)
  | _, .non => .ok (.bl false)
  | _, _ => .stuck
def dIsNotN : D → D → Res D
  | .non, .non => .ok (.bl false)
  | _, .non => .ok (.bl true)
  | _, _ => .stuck
/-- x in y -/
def isInfix (x : List Nat) : List Nat → Bool
  | [] => x.isEmpty
  | c :: r => x.isPrefixOf (c :: r) || isInfix x r
def flatD : D → Bool
  | .non => true
  | .bl _ => true
  | .int _ => true
  | .str _ => true
  | _ => false
def inSeq (tup : Bool) (x : D) (ys : List D) : Res D :=
  if (flatD x && ys.all flatD) || (!tup && x.lay 20 && D.layAll 19 ys) then .ok (.bl (ys.any fun y => y.eqv x)) else .stuck
def dIn : D → D → Res D
  | .str [c], .str y => .ok (.bl (decide (c ∈ y)))
  | x, .lst ys => inSeq false x ys
  | x, .tup ys => inSeq true x ys
  | _, _ => .stuck
def dNotB : D → Res D
  | .bl b => .ok (.bl (!b))
  | _ => .stuck
def dNotIn (x y : D) : Res D := (dIn x y).bind dNotB

/-! ### truth -/
def truth : D → Res Bool
  | .non => .ok false
  | .bl b => .ok b
  | .int i => .ok (i != 0)
  | .str x => if x.length ≤ line then .ok (!x.isEmpty) else .stuck
  | .lst xs => .ok (!xs.isEmpty)
  | .tup xs => .ok (!xs.isEmpty)
  | .dic ks _ => .ok (!ks.isEmpty)
  | _ => .stuck
def tT (a : DE) : DT := fun ρ => (a ρ).bind truth
/-- a test whose value is a bool -/
def isB : D → Res Bool
  | .bl b => .ok b
  | _ => .stuck
def tB (a : DE) : DT := fun ρ => (a ρ).bind isB
def tAnd (a b : DT) : DT := fun ρ => (a ρ).bind fun x => if x = true then b ρ else .ok false
def tOr (a b : DT) : DT := fun ρ => (a ρ).bind fun x => if x = true then .ok true else b ρ
def tNot (a : DT) : DT := fun ρ => (a ρ).bind fun x => .ok (!x)
/-- and, or, not as values: of bools -/
def eAnd (a b : DE) : DE := fun ρ => (a ρ).bind fun x => match x with
  | .bl c => if c = true then b ρ else .ok (.bl false)
  | _ => .stuck
def eOr (a b : DE) : DE := fun ρ => (a ρ).bind fun x => match x with
  | .bl c => if c = true then .ok (.bl true) else b ρ
  | _ => .stuck
def eIf (c : DT) (a b : DE) : DE := fun ρ => (c ρ).bind fun x => if x = true then a ρ else b ρ
/-- a op b op' c -/
def eChain (f g : D → D → Res D) (a b c : DE) : DE := fun ρ => (a ρ).bind fun x => (b ρ).bind fun y => (f x y).bind fun z => match z with
  | .bl k => if k = true then (c ρ).bind fun w => g y w else .ok (.bl false)
  | _ => .stuck

/-! ### displays, items, slices -/
def dLst (xs : List D) : Res D := if xs.length ≤ line then .ok (.lst xs) else .stuck
def dTup (xs : List D) : Res D := if xs.length ≤ line then .ok (.tup xs) else .stuck
def place (n : Nat) (i : Int) : Option Nat := if 0 ≤ i then (if i < n then some i.toNat else none) else if -(n : Int) ≤ i then some (i + n).toNat else none
def atD {α : Type} (xs : List α) (i : Int) : Option α := (place xs.length i).bind fun j => xs[j]?
/-- the key that a value is -/
def keyOf : D → Option Ky
  | .int i => some (.i i)
  | .str x => some (.s x)
  | _ => none
def dGet (k : Ky) : List Ky → List D → Option D
  | k' :: ks, v :: vs => if k' = k then some v else dGet k ks vs
  | _, _ => none
def orS {α : Type} : Option α → Res α
  | some x => .ok x
  | none => .stuck
def dIdx : D → D → Res D
  | .str x, .int i => if x.length ≤ line then orS ((atD x i).map fun c => .str [c]) else .stuck
  | .lst xs, .int i => orS (atD xs i)
  | .tup xs, .int i => orS (atD xs i)
  | .fzl xs, .int i => orS (atD xs i)
  | .fzd ks vs, k => match keyOf k with
    | some k => orS (dGet k ks vs)
    | none => .stuck
  | .dic ks vs, k => match keyOf k with
    | some k => orS (dGet k ks vs)
    | none => .stuck
  | _, _ => .stuck
/-- a slice's bound as a place among n -/
def sIx (n d : Nat) : Option Int → Nat
  | none => d
  | some v => if v < 0 then (v + (n : Int)).toNat else min v.toNat n
def cut {α : Type} (xs : List α) (lo hi : Option Int) : List α := (xs.drop (sIx xs.length 0 lo)).take (sIx xs.length xs.length hi - sIx xs.length 0 lo)
def dCut (lo hi : Option Int) : D → Res D
  | .str x => if x.length ≤ line then .ok (.str (cut x lo hi)) else .stuck
  | .lst xs => .ok (.lst (cut xs lo hi))
  | .tup xs => .ok (.tup (cut xs lo hi))
  | _ => .stuck
def dIx : D → D → Res D := fun x y => match x with
    | .dic _ _ => .stuck
    | .fzd _ _ => .stuck
    | _ => dIdx x y
/-- a part of a slice -/
def part (a : Option DE) (ρ : Env) : Res (Option Int) :=
  match a with
  | none => .ok none
  | some a => (a ρ).bind fun x => match x with
    | .int i => .ok (some i)
    | _ => .stuck
def eCut (a : DE) (lo hi : Option DE) : DE := fun ρ => (a ρ).bind fun x => (part lo ρ).bind fun l => (part hi ρ).bind fun h => dCut l h x
def dRev : D → Res D
  | .str x => if x.length ≤ line then .ok (.str x.reverse) else .stuck
  | .lst xs => .ok (.lst xs.reverse)
  | _ => .stuck

/-! ### built-in calls -/
def dLen : D → Res D
  | .str x => if x.length ≤ line then .ok (.int x.length) else .stuck
  | .lst xs => .ok (.int xs.length)
  | .tup xs => .ok (.int xs.length)
  | .fzl xs => .ok (.int xs.length)
  | .dic ks _ => .ok (.int ks.length)
  | _ => .stuck
def fLen : List D → Res D
  | [x] => dLen x
  | _ => .stuck
def fMax2 : List D → Res D
  | [.int i, .int j] => .ok (.int (if j > i then j else i))
  | _ => .stuck
def fMin2 : List D → Res D
  | [.int i, .int j] => .ok (.int (if j < i then j else i))
  | _ => .stuck
def fAbs : List D → Res D
  | [.int i] => .ok (.int (if i < 0 then -i else i))
  | _ => .stuck
def digitOf (c : Nat) : Option Int := if 48 ≤ c ∧ c ≤ 57 then some ((c : Int) - 48) else none
def fInt : List D → Res D
  | [.int i] => .ok (.int i)
  | [.bl b] => .ok (.int (if b then 1 else 0))
  | [.str [c]] => match digitOf c with
    | some i => .ok (.int i)
    | none => .stuck
  | _ => .stuck
def intsOf : List D → Option (List Int)
  | [] => some []
  | .int i :: r => (intsOf r).map (i :: ·)
  | _ => none
def blsOf : List D → Option (List Bool)
  | [] => some []
  | .bl b :: r => (blsOf r).map (b :: ·)
  | _ => none
def strsOf : List D → Option (List (List Nat))
  | [] => some []
  | .str x :: r => (strsOf r).map (x :: ·)
  | _ => none
def sumI : List Int → Int
  | [] => 0
  | i :: r => i + sumI r
def fSum : List D → Res D
  | [.lst xs] => match intsOf xs with
    | some ns => .ok (.int (sumI ns))
    | none => .stuck
  | _ => .stuck
def fAll : List D → Res D
  | [.lst xs] => match blsOf xs with
    | some bs => .ok (.bl (bs.all id))
    | none => .stuck
  | _ => .stuck
def fAny : List D → Res D
  | [.lst xs] => match blsOf xs with
    | some bs => .ok (.bl (bs.any id))
    | none => .stuck
  | _ => .stuck
def fMax : List D → Res D
  | [.lst xs] => match intsOf xs with
    | some (n :: ns) => .ok (.int (ns.foldl max n))
    | _ => .stuck
  | _ => .stuck
def fMin : List D → Res D
  | [.lst xs] => match intsOf xs with
    | some (n :: ns) => .ok (.int (ns.foldl min n))
    | _ => .stuck
  | _ => .stuck
/-- isinstance by the built-in classes -/
def isInt : D → Res D
  | .int _ => .ok (.bl true)
  | .bl _ => .ok (.bl true)
  | .exo _ => .stuck
  | .clo _ _ => .stuck
  | _ => .ok (.bl false)
def isBool : D → Res D
  | .bl _ => .ok (.bl true)
  | .exo _ => .stuck
  | .clo _ _ => .stuck
  | _ => .ok (.bl false)
def isStr : D → Res D
  | .str _ => .ok (.bl true)
  | .exo _ => .stuck
  | .clo _ _ => .stuck
  | _ => .ok (.bl false)
def isList : D → Res D
  | .lst _ => .ok (.bl true)
  | .fzl _ => .ok (.bl true)
  | .exo _ => .stuck
  | .clo _ _ => .stuck
  | _ => .ok (.bl false)
def isTuple : D → Res D
  | .tup _ => .ok (.bl true)
  | .exo _ => .stuck
  | .clo _ _ => .stuck
  | _ => .ok (.bl false)
/-- text.index(sign), list.index(data) -/
def idxOf (p : Nat → Bool) : List Nat → Option Nat
  | [] => none
  | c :: r => if p c then some 0 else (idxOf p r).map (· + 1)
def infixAt (x : List Nat) : List Nat → Option Nat
  | [] => if x.isEmpty then some 0 else none
  | c :: r => if x.isPrefixOf (c :: r) then some 0 else (infixAt x r).map (· + 1)
def firstEqv (x : D) : List D → Option Nat
  | [] => none
  | y :: r => if y.eqv x then some 0 else (firstEqv x r).map (· + 1)
def dIndex : D → D → Res D
  | .str y, .str (a :: x) => match infixAt (a :: x) y with
    | some k => .ok (.int k)
    | none => .stuck
  | .lst ys, x => if flatD x && ys.all flatD then (match firstEqv x ys with
    | some k => .ok (.int k)
    | none => .stuck) else .stuck
  | _, _ => .stuck
def dCount : D → D → Res D
  | .str y, .str [c] => .ok (.int (y.count c))
  | _, _ => .stuck
/-- str(n) of a number from 0 on -/
def digs (n : Nat) : List Nat := (Nat.toDigits 10 n).map Char.toNat
def fStr : List D → Res D
  | [.int i] => if 0 ≤ i ∧ i.natAbs.log2 < 1920 then .ok (.str (digs i.toNat)) else .stuck
  | [.str x] => .ok (.str x)
  | _ => .stuck
/-- each once, in the order of coming -/
def once {K : Type} [DecidableEq K] (acc : List K) : List K → List K
  | [] => acc
  | k :: r => once (if k ∈ acc then acc else acc ++ [k]) r
/-- len(set(x)) -/
def setLen (xs : List D) : Res D :=
  if xs.length < 4000 then (match intsOf xs with
    | some ns => .ok (.int (once [] ns).length)
    | none => match strsOf xs with
      | some ys => .ok (.int (once [] ys).length)
      | none => .stuck) else .stuck
def dLenSet : D → Res D
  | .str x => if x.length < 4000 then .ok (.int (once [] x).length) else .stuck
  | .lst xs => setLen xs
  | .tup xs => setLen xs
  | _ => .stuck
def joinL (sep : List Nat) : List (List Nat) → List Nat
  | [] => []
  | [x] => x
  | x :: r => x ++ sep ++ joinL sep r
def sumLen : List (List Nat) → Nat
  | [] => 0
  | x :: r => x.length + sumLen r
def dJoin : D → D → Res D
  | .str sep, .lst xs => match strsOf xs with
    | some ys => if sumLen ys + ys.length * sep.length ≤ line then .ok (.str (joinL sep ys)) else .stuck
    | none => .stuck
  | _, _ => .stuck
/-- list(x) -/
def fList : List D → Res D
  | [.lst xs] => .ok (.lst xs)
  | [.str x] => .ok (.lst (x.map fun c => .str [c]))
  | [.tup xs] => .ok (.lst xs)
  | _ => .stuck
def fTuple : List D → Res D
  | [.lst xs] => .ok (.tup xs)
  | _ => .stuck

/-- sorted(ints) -/
def insI (n : Int) : List Int → List Int
  | [] => [n]
  | m :: r => if n ≤ m then n :: m :: r else m :: insI n r
def sortI : List Int → List Int
  | [] => []
  | n :: r => insI n (sortI r)
def fSorted : List D → Res D
  | [.lst xs] => match intsOf xs with
    | some ns => .ok (.lst ((sortI ns).map .int))
    | none => .stuck
  | _ => .stuck
/-! ### what is walked -/
def iSeq (a : DE) : DI := fun ρ => (a ρ).bind fun x => match x with
  | .lst xs => .ok xs
  | .tup xs => .ok xs
  | .str x => .ok (x.map fun c => .str [c])
  | _ => .stuck
def rangeL (lo : Int) : Nat → List D
  | 0 => []
  | n + 1 => .int lo :: rangeL (lo + 1) n
def big : Int := 4611686018427387904
def rg (lo hi : Int) : Res (List D) := if -big ≤ lo ∧ lo < big ∧ -big ≤ hi ∧ hi < big then .ok (rangeL lo (hi - lo).toNat) else .stuck
def iRange1 (a : DE) : DI := fun ρ => (a ρ).bind fun x => match x with
  | .int n => rg 0 n
  | _ => .stuck
def iRange2 (a b : DE) : DI := fun ρ => (a ρ).bind fun x => (b ρ).bind fun y => match x, y with
  | .int i, .int j => rg i j
  | _, _ => .stuck
/-- range(a, b, -1) -/
def downL (hi : Int) : Nat → List D
  | 0 => []
  | n + 1 => .int hi :: downL (hi - 1) n
def iRangeDown (a b : DE) : DI := fun ρ => (a ρ).bind fun x => (b ρ).bind fun y => match x, y with
  | .int i, .int j => if -big ≤ i ∧ i < big ∧ -big ≤ j ∧ j < big then .ok (downL i (i - j).toNat) else .stuck
  | _, _ => .stuck
/-- the list of what is walked: list(range(..)), list(zip(..)) -/
def eLstOf (it : DI) : DE := fun ρ => (it ρ).bind dLst
def enumL (k : Int) : List D → List D
  | [] => []
  | x :: r => .tup [.int k, x] :: enumL (k + 1) r
/-- what zip, enumerate, set walk -/
def zseq : D → Res (List D)
  | .lst xs => .ok xs
  | .tup xs => .ok xs
  | .str x => .ok (x.map fun c => .str [c])
  | _ => .stuck
def enumD : D → Res (List D)
  | .lst xs => .ok (enumL 0 xs)
  | .str x => .ok (enumL 0 (x.map fun c => .str [c]))
  | _ => .stuck
def iEnum (a : DE) : DI := fun ρ => (a ρ).bind enumD
def zipL : List D → List D → List D
  | x :: xs, y :: ys => .tup [x, y] :: zipL xs ys
  | _, _ => []
def zipD (x y : D) : Res (List D) := (zseq x).bind fun xs => (zseq y).bind fun ys => .ok (zipL xs ys)
def iZip (a b : DE) : DI := fun ρ => (a ρ).bind fun x => (b ρ).bind fun y => zipD x y

/-! ### targets -/
def gSet (i : Nat) : DG := fun d ρ => if i < ρ.length then .ok (ρ.set i (some (.sh d))) else .stuck
def gList : List DG → List D → Env → Res Env
  | [], [], ρ => .ok ρ
  | g :: gs, d :: ds, ρ => (g d ρ).bind (gList gs ds)
  | _, _, _ => .stuck
def gTup (gs : List DG) : DG := fun d ρ => match d with
  | .tup ds => gList gs ds ρ
  | _ => .stuck

/-! ### comprehensions -/
/-- a block sees no slot's own list -/
def hideO : Option SV → Option SV
  | some (.sh d) => some (.sh d)
  | _ => none
def wipeE (ρ : Env) : List Nat → Env
  | [] => ρ.map hideO
  | v :: vs => (wipeE ρ vs).set v none
def lcGo (g : DG) (c : DT) (e : DE) (ρ : Env) : List D → List D → Res (List D)
  | [], acc => .ok acc
  | d :: ds, acc => match g d ρ with
    | .ok ρ' => match c ρ' with
      | .ok true => match e ρ' with
        | .ok y => if acc.length < line then lcGo g c e ρ ds (acc ++ [y]) else .stuck
        | _ => .stuck
      | .ok false => lcGo g c e ρ ds acc
      | _ => .stuck
    | _ => .stuck
def tYes : DT := fun _ => .ok true
/-- [e for g in it if c], vs: the block's own slots -/
def eLc (it : DI) (vs : List Nat) (g : DG) (c : DT) (e : DE) : DE := fun ρ => (it ρ).bind fun ds => (lcGo g c e (wipeE ρ vs) ds []).bind fun ys => .ok (.lst ys)

/-! ### statements -/
def sNil : DS := fun ρ => .nx ρ
def sSeq (a b : DS) : DS := fun ρ => match a ρ with
  | .nx ρ' => b ρ'
  | .rt d => .rt d
  | .bk ρ' => .bk ρ'
  | .ct ρ' => .ct ρ'
  | .exc c ρ' => .exc c ρ'
  | .stuck => .stuck
/-- a block -/
def blk : List DS → DS
  | [] => sNil
  | [a] => a
  | a :: as => sSeq a (blk as)
def ofR {α : Type} (ρ : Env) (r : Res α) (f : α → Out) : Out :=
  match r with
  | .ok a => f a
  | .exc c => .exc c ρ
  | .stuck => .stuck
def sAsg (g : DG) (e : DE) : DS := fun ρ => ofR ρ (e ρ) fun d => match g d ρ with
  | .ok ρ' => .nx ρ'
  | _ => .stuck
def sSet (i : Nat) (e : DE) : DS := sAsg (gSet i) e
/-- name = a new list (dict) that no other holds -/
def sSetO (i : Nat) (e : DE) : DS := fun ρ => ofR ρ (e ρ) fun d => if i < ρ.length then .nx (ρ.set i (some (.own d))) else .stuck
def sExpr (e : DE) : DS := fun ρ => ofR ρ (e ρ) fun _ => .nx ρ
def sRet (e : DE) : DS := fun ρ => ofR ρ (e ρ) .rt
def sRetN : DS := fun _ => .rt .non
def sIf (c : DT) (a b : DS) : DS := fun ρ => ofR ρ (c ρ) fun x => if x = true then a ρ else b ρ
def sRaise (c : Nat) : DS := fun ρ => .exc c ρ
def sBreak : DS := fun ρ => .bk ρ
def sCont : DS := fun ρ => .ct ρ
def whileD (c : DT) (b : DS) : Nat → Env → Out
  | 0, _ => .stuck
  | n + 1, ρ => ofR ρ (c ρ) fun x => if x = true then (match b ρ with
      | .nx ρ' => whileD c b n ρ'
      | .ct ρ' => whileD c b n ρ'
      | .bk ρ' => .nx ρ'
      | .rt d => .rt d
      | .exc k ρ' => .exc k ρ'
      | .stuck => .stuck) else .nx ρ
def sWhile (c : DT) (b : DS) : DS := whileD c b 100000
def forD (g : DG) (b : DS) : List D → Env → Out
  | [], ρ => .nx ρ
  | d :: ds, ρ => match g d ρ with
    | .ok ρ' => (match b ρ' with
      | .nx ρ'' => forD g b ds ρ''
      | .ct ρ'' => forD g b ds ρ''
      | .bk ρ'' => .nx ρ''
      | .rt d => .rt d
      | .exc k ρ'' => .exc k ρ''
      | .stuck => .stuck)
    | _ => .stuck
def sFor (it : DI) (g : DG) (b : DS) : DS := fun ρ => ofR ρ (it ρ) fun ds => forD g b ds ρ
/-- a, b = x, y: all is reckoned, then stored; a slot with its flag holds a new list alone -/
def mkS (o : Bool) (d : D) : SV := if o = true then .own d else .sh d
def parGo : List (Nat × Bool × DE) → Env → Env → Out
  | [], _, acc => .nx acc
  | (i, o, f) :: r, ρ, acc => ofR ρ (f ρ) fun d => if i < acc.length then parGo r ρ (acc.set i (some (mkS o d))) else .stuck
def sPar (r : List (Nat × Bool × DE)) : DS := fun ρ => parGo r ρ ρ
/-- xs.append(e), xs.extend(e): xs in the slot i, held by it alone -/
def sAppend (i : Nat) (e : DE) : DS := fun ρ => match ρ[i]? with
  | some (some (.own (.lst xs))) => ofR ρ (e ρ) fun y => if xs.length < line then .nx (ρ.set i (some (.own (.lst (xs ++ [y]))))) else .stuck
  | _ => .stuck
def sExtend (i : Nat) (e : DE) : DS := fun ρ => match ρ[i]? with
  | some (some (.own (.lst xs))) => ofR ρ (e ρ) fun y => match y with
    | .lst ys => if xs.length + ys.length ≤ line then .nx (ρ.set i (some (.own (.lst (xs ++ ys))))) else .stuck
    | _ => .stuck
  | _ => .stuck
/-- xs[e] = v, xs in the slot i, held by it alone -/
def sPut (i : Nat) (e v : DE) : DS := fun ρ => ofR ρ (v ρ) fun y => match ρ[i]? with
  | some (some (.own (.lst xs))) => ofR ρ (e ρ) fun n => match n with
    | .int n => match place xs.length n with
      | some j => .nx (ρ.set i (some (.own (.lst (xs.set j y)))))
      | none => .stuck
    | _ => .stuck
  | _ => .stuck
/-- from here on the slot's list may be held by others -/
def sFreeze (i : Nat) : DS := fun ρ => match ρ[i]? with
  | some (some (.own d)) => .nx (ρ.set i (some (.sh d)))
  | some (some (.sh _)) => .nx ρ
  | _ => .stuck

/-! ### a def -/
def runF (n : Nat) (body : DS) (vs : List D) : Res D :=
  match body (vs.map (fun d => some (.sh d)) ++ List.replicate (n - vs.length) none) with
  | .nx _ => .ok .non
  | .rt d => .ok d
  | .exc c _ => .exc c
  | _ => .stuck
end NB
end

section
set_option linter.all false
set_option autoImplicit false
/-! NBPure: plain lemmas about the constructs. -/
namespace NB
open Res
abbrev dints (ns : List Int) : List D := ns.map D.int
abbrev sh (d : D) : Option SV := some (.sh d)
section
variable {F F' : DS} {ρ ρ' : Env} {f : DE} {t : DT} {d : D} {i : Nat}
theorem seq_nx (h : F ρ = .nx ρ') : sSeq F F' ρ = F' ρ' := by unfold sSeq; rw [h]
theorem seq_rt (h : F ρ = .rt d) : sSeq F F' ρ = .rt d := by unfold sSeq; rw [h]
theorem seq_ex {k : Nat} (h : F ρ = .exc k ρ') : sSeq F F' ρ = .exc k ρ' := by unfold sSeq; rw [h]
theorem if_t (h : t ρ = .ok true) : sIf t F F' ρ = F ρ := by unfold sIf; rw [h]; rfl
theorem if_f (h : t ρ = .ok false) : sIf t F F' ρ = F' ρ := by unfold sIf; rw [h]; rfl
theorem set_ok (h : f ρ = .ok d) (hi : i < ρ.length) : sSet i f ρ = .nx (ρ.set i (sh d)) := by
  unfold sSet sAsg ofR
  rw [h]
  show (match gSet i d ρ with | .ok ρ' => Out.nx ρ' | _ => .stuck) = _
  unfold gSet
  rw [if_pos hi]
theorem expr_ok (h : f ρ = .ok d) : sExpr f ρ = .nx ρ := by unfold sExpr ofR; rw [h]
theorem ret_ok (h : f ρ = .ok d) : sRet f ρ = .rt d := by unfold sRet ofR; rw [h]
theorem eN_ok {m : List D → Res D} {fs : List DE} {ds : List D} (h : args fs ρ = .ok ds) : eN m fs ρ = m ds := by unfold eN; rw [h]; rfl
theorem args_cons {a : DE} {as : List DE} {ds : List D} (h : a ρ = .ok d) (h2 : args as ρ = .ok ds) : args (a :: as) ρ = .ok (d :: ds) := by
  show (a ρ).bind _ = _
  rw [h]
  show (args as ρ).bind _ = _
  rw [h2]
  rfl
theorem args_nil : args [] ρ = .ok [] := rfl
theorem e1_ok {op : D → Res D} {a : DE} (h : a ρ = .ok d) : e1 op a ρ = op d := by unfold e1; rw [h]; rfl
theorem e2_ok {op : D → D → Res D} {a b : DE} {x y : D} (h : a ρ = .ok x) (h2 : b ρ = .ok y) : e2 op a b ρ = op x y := by
  unfold e2
  rw [h]
  show (b ρ).bind _ = _
  rw [h2]
  rfl
theorem e2_to {op : D → D → Res D} {a b : DE} {x y z : D} (h : a ρ = .ok x) (h2 : b ρ = .ok y) (h3 : op x y = .ok z) : e2 op a b ρ = .ok z := (e2_ok h h2).trans h3
theorem e1_to {op : D → Res D} {a : DE} {x z : D} (h : a ρ = .ok x) (h3 : op x = .ok z) : e1 op a ρ = .ok z := (e1_ok h).trans h3
theorem eN_to {m : List D → Res D} {fs : List DE} {ds : List D} {z : D} (h : args fs ρ = .ok ds) (h3 : m ds = .ok z) : eN m fs ρ = .ok z := (eN_ok h).trans h3
theorem eM1_to {p : D → Bool} {op : D → D → Res D} {a b : DE} {x y z : D} (h : a ρ = .ok x) (hp : p x = true) (h2 : b ρ = .ok y) (h3 : op x y = .ok z) : eM1 p op a b ρ = .ok z := by
  unfold eM1
  rw [h]
  show (if p x = true then (b ρ).bind fun y => op x y else .stuck) = _
  rw [if_pos hp, h2]
  exact h3
theorem set_to {ρ' : Env} (h : f ρ = .ok d) (hi : decide (i < ρ.length) = true) (h' : ρ.set i (sh d) = ρ') : sSet i f ρ = .nx ρ' := h' ▸ set_ok h (of_decide_eq_true hi)
theorem tB_ok {a : DE} {b : Bool} (h : a ρ = .ok (.bl b)) : tB a ρ = .ok b := by unfold tB; rw [h]; rfl
theorem tT_ok {a : DE} {b : Bool} (h : a ρ = .ok (.bl b)) : tT a ρ = .ok b := by unfold tT; rw [h]; rfl
theorem tNot_ok {a : DT} {b : Bool} (h : a ρ = .ok b) : tNot a ρ = .ok (!b) := by unfold tNot; rw [h]; rfl
theorem tOr_ok {a b : DT} {x y : Bool} (h : a ρ = .ok x) (h2 : b ρ = .ok y) : tOr a b ρ = .ok (x || y) := by
  unfold tOr
  rw [h]
  cases x
  · exact h2
  · rfl
theorem tAnd_ok {a b : DT} {x y : Bool} (h : a ρ = .ok x) (h2 : b ρ = .ok y) : tAnd a b ρ = .ok (x && y) := by
  unfold tAnd
  rw [h]
  cases x
  · rfl
  · exact h2
theorem eAnd_ok {a b : DE} {x y : Bool} (h : a ρ = .ok (.bl x)) (h2 : b ρ = .ok (.bl y)) : eAnd a b ρ = .ok (.bl (x && y)) := by
  unfold eAnd
  rw [h]
  cases x
  · rfl
  · exact h2
theorem eOr_ok {a b : DE} {x y : Bool} (h : a ρ = .ok (.bl x)) (h2 : b ρ = .ok (.bl y)) : eOr a b ρ = .ok (.bl (x || y)) := by
  unfold eOr
  rw [h]
  cases x
  · exact h2
  · rfl
theorem eChain_ok {f g : D → D → Res D} {a b c : DE} {x y z : D} {p q : Bool} (h : a ρ = .ok x) (h2 : b ρ = .ok y) (h3 : c ρ = .ok z) (hp : f x y = .ok (.bl p)) (hq : g y z = .ok (.bl q)) : eChain f g a b c ρ = .ok (.bl (p && q)) := by
  unfold eChain
  rw [h]
  show (b ρ).bind _ = _
  rw [h2]
  show (f x y).bind _ = _
  rw [hp]
  cases p
  · rfl
  · show (c ρ).bind _ = _
    rw [h3]
    exact hq
theorem seqTo {o : Out} (h : F ρ = .nx ρ') (h2 : F' ρ' = o) : sSeq F F' ρ = o := (seq_nx h).trans h2
theorem ifT {o : Out} (h : t ρ = .ok true) (h2 : F ρ = o) : sIf t F F' ρ = o := (if_t h).trans h2
theorem ifF {o : Out} (h : t ρ = .ok false) (h2 : F' ρ = o) : sIf t F F' ρ = o := (if_f h).trans h2
theorem skip (h : t ρ = .ok false) : sIf t F sNil ρ = .nx ρ := if_f h
theorem run_rt {n : Nat} {ds : List D} (h0 : ds.map (fun d => some (SV.sh d)) ++ List.replicate (n - ds.length) none = ρ) (h : F ρ = .rt d) : runF n F ds = .ok d := by
  unfold runF
  rw [h0, h]
theorem run_nx {n : Nat} {ds : List D} (h0 : ds.map (fun d => some (SV.sh d)) ++ List.replicate (n - ds.length) none = ρ) (h : F ρ = .nx ρ') : runF n F ds = .ok .non := by
  unfold runF
  rw [h0, h]
theorem run_ex {n k : Nat} {ds : List D} (h0 : ds.map (fun d => some (SV.sh d)) ++ List.replicate (n - ds.length) none = ρ) (h : F ρ = .exc k ρ') : runF n F ds = .exc k := by
  unfold runF
  rw [h0, h]
theorem forD_cons {g : DG} {ds : List D} {ρ1 ρ2 : Env} {o : Out} (hg : g d ρ = .ok ρ1) (hb : F ρ1 = .nx ρ2) (h : forD g F ds ρ2 = o) : forD g F (d :: ds) ρ = o := by
  unfold forD
  rw [hg]
  show (match F ρ1 with | .nx ρ'' => forD g F ds ρ'' | .ct ρ'' => forD g F ds ρ'' | .bk ρ'' => .nx ρ'' | .rt d => .rt d | .exc k ρ'' => .exc k ρ'' | .stuck => .stuck) = _
  rw [hb]
  exact h
theorem asg_ok {g : DG} (h : f ρ = .ok d) (h2 : g d ρ = .ok ρ') : sAsg g f ρ = .nx ρ' := by
  unfold sAsg ofR
  rw [h]
  show (match g d ρ with | .ok ρ' => Out.nx ρ' | _ => .stuck) = _
  rw [h2]
theorem append_ok {xs : List D} {ρ' : Env} (h : ρ[i]? = some (some (.own (.lst xs)))) (h2 : f ρ = .ok d) (hl : xs.length < 16777216) (e : ρ.set i (some (.own (.lst (xs ++ [d])))) = ρ') : sAppend i f ρ = .nx ρ' := by
  unfold sAppend
  rw [h]
  show ofR ρ (f ρ) _ = _
  unfold ofR
  rw [h2]
  show (if xs.length < line then Out.nx _ else .stuck) = _
  rw [if_pos hl, e]
theorem par2_ok {j : Nat} {o o2 : Bool} {f2 : DE} {d2 : D} {ρ' : Env} (h : f ρ = .ok d) (h2 : f2 ρ = .ok d2) (hi : decide (i < ρ.length) = true) (hj : decide (j < ρ.length) = true) (e : (ρ.set i (some (mkS o d))).set j (some (mkS o2 d2)) = ρ') : sPar [(i, o, f), (j, o2, f2)] ρ = .nx ρ' := by
  unfold sPar parGo ofR
  rw [h]
  show (if i < ρ.length then parGo [(j, o2, f2)] ρ (ρ.set i (some (mkS o d))) else .stuck) = _
  rw [if_pos (of_decide_eq_true hi)]
  unfold parGo ofR
  rw [h2]
  show (if j < (ρ.set i (some (mkS o d))).length then parGo [] ρ ((ρ.set i (some (mkS o d))).set j (some (mkS o2 d2))) else .stuck) = _
  rw [if_pos (by rw [List.length_set]; exact of_decide_eq_true hj), e]
  rfl
theorem forD_ret {g : DG} {ds : List D} {ρ1 : Env} {x : D} (hg : g d ρ = .ok ρ1) (hb : F ρ1 = .rt x) : forD g F (d :: ds) ρ = .rt x := by
  unfold forD
  rw [hg]
  show (match F ρ1 with | .nx ρ'' => forD g F ds ρ'' | .ct ρ'' => forD g F ds ρ'' | .bk ρ'' => .nx ρ'' | .rt d => .rt d | .exc k ρ'' => .exc k ρ'' | .stuck => .stuck) = _
  rw [hb]
/-! ### comprehensions and loops -/
theorem lcGo_map {g : DG} {e : DE} {φ : D → D} : ∀ (ds acc : List D), (∀ d ∈ ds, ∃ ρ', g d ρ = .ok ρ' ∧ e ρ' = .ok (φ d)) → acc.length + ds.length ≤ line → lcGo g tYes e ρ ds acc = .ok (acc ++ ds.map φ)
  | [], acc, _, _ => by simp [lcGo]
  | d :: ds, acc, h, hl => by
    obtain ⟨ρ', h1, h2⟩ := h d List.mem_cons_self
    have hl' : acc.length + (ds.length + 1) ≤ line := hl
    unfold lcGo
    simp only [h1, tYes, h2]
    show (if acc.length < line then lcGo g tYes e ρ ds (acc ++ [φ d]) else .stuck) = _
    rw [if_pos (by omega), lcGo_map ds (acc ++ [φ d]) (fun d hd => h d (List.mem_cons_of_mem _ hd)) (by rw [List.length_append, List.length_singleton]; omega)]
    simp
theorem lcGo_filter {g : DG} {e : DE} {c : DT} {φ : D → D} {p : D → Bool} : ∀ (ds acc : List D), (∀ d ∈ ds, ∃ ρ', g d ρ = .ok ρ' ∧ c ρ' = .ok (p d) ∧ (p d = true → e ρ' = .ok (φ d))) → acc.length + ds.length ≤ line → lcGo g c e ρ ds acc = .ok (acc ++ (ds.filter p).map φ)
  | [], acc, _, _ => by simp [lcGo]
  | d :: ds, acc, h, hl => by
    obtain ⟨ρ', h1, h2, h3⟩ := h d List.mem_cons_self
    have hl' : acc.length + (ds.length + 1) ≤ line := hl
    have ih := fun acc hl => lcGo_filter (p := p) (φ := φ) ds acc (fun d hd => h d (List.mem_cons_of_mem _ hd)) hl
    unfold lcGo
    simp only [h1, h2]
    cases hp : p d with
    | true =>
      simp only [h3 hp]
      show (if acc.length < line then lcGo g c e ρ ds (acc ++ [φ d]) else .stuck) = _
      rw [if_pos (by omega), ih (acc ++ [φ d]) (by rw [List.length_append, List.length_singleton]; omega), List.filter_cons_of_pos hp]
      simp
    | false =>
      show lcGo g c e ρ ds acc = _
      rw [ih acc (by omega), List.filter_cons_of_neg (by rw [hp]; exact Bool.false_ne_true)]
theorem eLc_map {it : DI} {vs : List Nat} {g : DG} {e : DE} {φ : D → D} {ds : List D} (hi : it ρ = .ok ds) (h : ∀ d ∈ ds, ∃ ρ', g d (wipeE ρ vs) = .ok ρ' ∧ e ρ' = .ok (φ d)) (hl : ds.length ≤ line) : eLc it vs g tYes e ρ = .ok (.lst (ds.map φ)) := by
  unfold eLc
  rw [hi]
  show (lcGo g tYes e (wipeE ρ vs) ds []).bind _ = _
  rw [lcGo_map ds [] h (by simpa using hl)]
  rfl
theorem eLc_filter {it : DI} {vs : List Nat} {g : DG} {e : DE} {c : DT} {φ : D → D} {p : D → Bool} {ds : List D} (hi : it ρ = .ok ds) (h : ∀ d ∈ ds, ∃ ρ', g d (wipeE ρ vs) = .ok ρ' ∧ c ρ' = .ok (p d) ∧ (p d = true → e ρ' = .ok (φ d))) (hl : ds.length ≤ line) : eLc it vs g c e ρ = .ok (.lst ((ds.filter p).map φ)) := by
  unfold eLc
  rw [hi]
  show (lcGo g c e (wipeE ρ vs) ds []).bind _ = _
  rw [lcGo_filter ds [] h (by simpa using hl)]
  rfl
theorem sFor_ok {it : DI} {g : DG} {b : DS} {ds : List D} (hi : it ρ = .ok ds) : sFor it g b ρ = forD g b ds ρ := by unfold sFor ofR; rw [hi]
/-- a loop that runs to its end: an invariant by what is left -/
theorem forD_inv {g : DG} {b : DS} (I : List D → Env → Prop) : ∀ (ds : List D) (ρ : Env), I ds ρ → (∀ d ds ρ, I (d :: ds) ρ → ∃ ρ1 ρ2, g d ρ = .ok ρ1 ∧ b ρ1 = .nx ρ2 ∧ I ds ρ2) → ∃ ρ', forD g b ds ρ = .nx ρ' ∧ I [] ρ'
  | [], ρ, h, _ => ⟨ρ, rfl, h⟩
  | d :: ds, ρ, h, hs => by
    obtain ⟨ρ1, ρ2, h1, h2, h3⟩ := hs d ds ρ h
    obtain ⟨ρ', h4, h5⟩ := forD_inv I ds ρ2 h3 hs
    refine ⟨ρ', ?_, h5⟩
    unfold forD
    rw [h1]
    show (match b ρ1 with | .nx ρ'' => forD g b ds ρ'' | .ct ρ'' => forD g b ds ρ'' | .bk ρ'' => .nx ρ'' | .rt d => .rt d | .exc k ρ'' => .exc k ρ'' | .stuck => .stuck) = _
    rw [h2]
    exact h4
end
/-! ### lists of dints -/
theorem intsOf_ints : ∀ ns : List Int, intsOf (dints ns) = some ns
  | [] => rfl
  | n :: ns => by
    show (intsOf (dints ns)).map _ = _
    rw [intsOf_ints ns]
    rfl
theorem blsOf_bls : ∀ bs : List Bool, blsOf (bs.map D.bl) = some bs
  | [] => rfl
  | b :: bs => by
    show (blsOf (bs.map D.bl)).map _ = _
    rw [blsOf_bls bs]
    rfl
theorem eqvAll_ints : ∀ xs ys : List Int, D.eqvAll (dints xs) (dints ys) = decide (xs = ys)
  | [], [] => rfl
  | [], _ :: _ => rfl
  | _ :: _, [] => rfl
  | x :: xs, y :: ys => by
    show ((x == y) && D.eqvAll (dints xs) (dints ys)) = _
    rw [eqvAll_ints xs ys]
    by_cases h : x = y <;> by_cases h2 : xs = ys <;> simp [h, h2]
theorem layAll_ints (k : Nat) : ∀ xs : List Int, D.layAll k (dints xs) = true
  | [] => by cases k <;> rfl
  | x :: xs => by
    have : D.lay k (.int x) = true := by cases k <;> rfl
    show (D.lay k (.int x) && D.layAll k (dints xs)) = true
    rw [this, layAll_ints k xs]
    rfl
theorem dEq_ints (xs ys : List Int) : dEq (.lst (dints xs)) (.lst (dints ys)) = .ok (.bl (decide (xs = ys))) := by
  unfold dEq
  have h1 : D.lay 20 (.lst (dints xs)) = true := layAll_ints 19 xs
  have h2 : D.lay 20 (.lst (dints ys)) = true := layAll_ints 19 ys
  rw [h1, h2, Bool.and_true, Bool.or_true, if_pos rfl]
  show Res.ok (D.bl (D.eqvAll (dints xs) (dints ys))) = _
  rw [eqvAll_ints]
theorem dNe_ints (xs ys : List Int) : dNe (.lst (dints xs)) (.lst (dints ys)) = .ok (.bl (!decide (xs = ys))) := by
  unfold dNe
  have h1 : D.lay 20 (.lst (dints xs)) = true := layAll_ints 19 xs
  have h2 : D.lay 20 (.lst (dints ys)) = true := layAll_ints 19 ys
  rw [h1, h2, Bool.and_true, Bool.or_true, if_pos rfl]
  show Res.ok (D.bl (!D.eqvAll (dints xs) (dints ys))) = _
  rw [eqvAll_ints]
theorem dEq_int (x y : Int) : dEq (.int x) (.int y) = .ok (.bl (decide (x = y))) := by
  show Res.ok (D.bl (x == y)) = _
  congr 2
theorem dNe_int (x y : Int) : dNe (.int x) (.int y) = .ok (.bl (!decide (x = y))) := by
  show Res.ok (D.bl (!(x == y))) = _
  congr 2
theorem dMul_int {x y : Int} (h : mulOk x y = true) : dMul (.int x) (.int y) = .ok (.int (x * y)) := if_pos h
theorem dMod_int {x y : Int} (h : 0 < y) : dMod (.int x) (.int y) = .ok (.int (x % y)) := if_pos h
theorem dDiv_int {x y : Int} (h : divOk y = true) : dDiv (.int x) (.int y) = .ok (.int (x / y)) := if_pos h
theorem mulOk_small {x y : Int} (h : y.natAbs < 18446744073709551616) : mulOk x y = true := by
  unfold mulOk
  rw [decide_eq_true h, Bool.or_true, Bool.true_or]
theorem mulOk_smallL {x y : Int} (h : x.natAbs < 18446744073709551616) : mulOk x y = true := by
  unfold mulOk
  rw [decide_eq_true h, Bool.true_or, Bool.true_or]
theorem log2_lt_of {n k : Nat} (h : n < 2 ^ k) (hk : 0 < k) : n.log2 < k := by
  by_cases h0 : n = 0
  · subst h0
    simpa using hk
  · exact (Nat.log2_lt h0).mpr h
theorem mulOk_big {x y : Int} (hx : x.natAbs < 2 ^ 400000) (hy : y.natAbs < 2 ^ 400000) : mulOk x y = true := by
  unfold mulOk
  have h1 := log2_lt_of hx (by decide)
  have h2 := log2_lt_of hy (by decide)
  rw [decide_eq_true (show x.natAbs.log2 + y.natAbs.log2 < 1000000 by omega), Bool.or_true]
theorem divOk_of {y : Int} (h : 0 < y) (h2 : y.natAbs < 2 ^ 9000) : divOk y = true := by
  unfold divOk
  have h1 := log2_lt_of h2 (by decide)
  rw [decide_eq_true h, decide_eq_true h1]
  rfl
theorem divOk_small {y : Int} (h : 0 < y) (h2 : y < 18446744073709551616) : divOk y = true := divOk_of h (by
  have h1 : y.natAbs < 2 ^ 64 := by omega
  exact Nat.lt_of_lt_of_le h1 (Nat.pow_le_pow_right (by decide) (by decide)))
theorem divOk_128 {y : Int} (h : 0 < y) (h2 : y < 340282366920938463463374607431768211456) : divOk y = true := divOk_of h (by
  have h1 : y.natAbs < 2 ^ 128 := by omega
  exact Nat.lt_of_lt_of_le h1 (Nat.pow_le_pow_right (by decide) (by decide)))
/-! ### the law's own: cells, drawn -/
theorem range_map : ∀ (n : Nat) (lo : Int), rangeL lo n = (List.range n).map fun i => D.int (lo + (i : Nat))
  | 0, _ => rfl
  | n + 1, lo => by
    show D.int lo :: rangeL (lo + 1) n = _
    rw [range_map n, List.range_succ_eq_map, List.map_cons, List.map_map]
    congr 1
    · simp
    · apply List.map_congr_left
      intro i _
      show D.int (lo + 1 + i) = D.int (lo + ((i + 1 : Nat) : Int))
      congr 1
      omega
theorem rg_ok {lo hi : Int} (h : -big ≤ lo ∧ lo < big ∧ -big ≤ hi ∧ hi < big) : rg lo hi = .ok ((List.range (hi - lo).toNat).map fun i => D.int (lo + (i : Nat))) := by
  unfold rg
  rw [if_pos h, range_map]
theorem range1_ok {ρ : Env} {a : DE} {z : Int} (h : a ρ = .ok (.int z)) (h0 : 0 ≤ z) (h1 : z < 4611686018427387904) : iRange1 a ρ = .ok ((List.range z.toNat).map fun i => D.int (0 + (i : Nat))) := by
  unfold iRange1
  rw [h]
  show rg 0 z = _
  rw [rg_ok (by unfold big; omega), Int.sub_zero]
theorem drawn_list {ρ : Env} {it : DI} {e : DE} {j : Nat} {z : Int} (ψ : Int → Int) (hit : it ρ = .ok ((List.range z.toNat).map fun i => D.int (0 + (i : Nat)))) (hz : z ≤ 16777216)
    (he : ∀ i : Int, 0 ≤ i → i < z → ∃ ρ', gSet j (.int i) (wipeE ρ [j]) = .ok ρ' ∧ e ρ' = .ok (.int (ψ i))) : eLc it [j] (gSet j) tYes e ρ = .ok (.lst (dints ((List.range z.toNat).map fun i => ψ (i : Nat)))) := by
  rw [eLc_map (φ := fun d => match d with | .int i => .int (ψ i) | d => d) hit (fun d hd => by
    obtain ⟨i, hi, rfl⟩ := List.mem_map.mp hd
    rw [List.mem_range] at hi
    rw [Int.zero_add]
    exact he i (by omega) (by omega)) (by rw [List.length_map, List.length_range]; show _ ≤ 16777216; omega)]
  rw [List.map_map, dints, List.map_map]
  congr 2
  apply List.map_congr_left
  intro i _
  show D.int (ψ (0 + (i : Nat))) = D.int (ψ (i : Nat))
  rw [Int.zero_add]
end NB
end

section
set_option linter.all false
set_option autoImplicit false
set_option maxRecDepth 100000
/-! NBLaw: what the laws have in common: a cell of the script, a number drawn by it, the turns. -/
namespace NB
open Res
def law_cell_F : DS :=
    (sSeq (sIf (tB (e2 dEq (eVar 0) (eN dLst [])))
    (sRet (e2 dMul (eVar 1) (eC (.int 7919))))
    sNil)
    (sRet (e2 dAdd (e2 dIx (eVar 0) (e2 dMod (eVar 1) (eN fLen [(eVar 0)]))) (e2 dMul (e2 dDiv (eVar 1) (eN fLen [(eVar 0)])) (eC (.int 104729))))))
def law_cell : List D → Res D := runF 2 law_cell_F
def law_drawn_F : DS :=
    (sSeq (sSet 2 (e2 dMod (e2 dAdd (e2 dMul (eVar 0) (eC (.int 6364136223846793005))) (e2 dMul (e2 dAdd (eVar 1) (eC (.int 1))) (eC (.int 1442695040888963407)))) (eC (.int 340282366920938463463374607431768211507))))
    (sSeq (sSet 2 (e2 dMod (e2 dMul (eVar 2) (eVar 2)) (eC (.int 340282366920938463463374607431768211297))))
    (sSeq (sSet 2 (e2 dMul (e2 dMul (e2 dAdd (e2 dMod (eVar 2) (eC (.int 18446744073709551557))) (eC (.int 1))) (e2 dAdd (e2 dDiv (eVar 2) (eC (.int 18446744073709551557))) (eC (.int 1)))) (eVar 2)))
    (sRet (e2 dMod (eVar 2) (eC (.int 340282366920938463463374607431768211507)))))))
def law_drawn : List D → Res D := runF 3 law_drawn_F

theorem mem_ints {ns : List Int} {d : D} (h : d ∈ dints ns) : ∃ n, d = .int n := by
  obtain ⟨n, _, rfl⟩ := List.mem_map.mp h
  exact ⟨n, rfl⟩
theorem atD_get {α : Type} (xs : List α) (i : Int) (h0 : 0 ≤ i) (h1 : i < xs.length) : ∃ x, atD xs i = some x ∧ x ∈ xs := by
  have hi : i.toNat < xs.length := by omega
  refine ⟨xs[i.toNat], ?_, List.getElem_mem _⟩
  unfold atD place
  rw [if_pos h0, if_pos h1]
  exact List.getElem?_eq_getElem hi
theorem cell_ok (ns : List Int) (k : Int) (hk : 0 ≤ k) (hl : ns.length ≤ 63) : ∃ c, law_cell [.fzl (dints ns), .int k] = .ok (.int c) := by
  cases ns with
  | nil =>
    refine ⟨k * 7919, ?_⟩
    have h : dMul (.int k) (.int 7919) = .ok (.int (k * 7919)) := dMul_int (mulOk_small (by decide))
    show (match sSeq _ _ [sh (.fzl []), sh (.int k)] with | .nx _ => Res.ok D.non | .rt d => .ok d | .exc c _ => .exc c | _ => .stuck) = _
    rw [seq_rt (d := .int (k * 7919)) (by rw [if_t (by rfl)]; exact ret_ok h)]
  | cons n ns =>
    have hl0 : (0 : Int) < ((ns.length + 1 : Nat) : Int) := by omega
    have hm := Int.emod_nonneg k (Int.ne_of_gt hl0)
    have hm2 := Int.emod_lt_of_pos k hl0
    obtain ⟨x, h1, h2⟩ := atD_get (dints (n :: ns)) (k % ((ns.length + 1 : Nat) : Int)) hm (by rw [List.length_map, List.length_cons]; exact hm2)
    obtain ⟨v, rfl⟩ := mem_ints h2
    refine ⟨v + k / ((ns.length + 1 : Nat) : Int) * 104729, ?_⟩
    have hlen : ∀ ρ : Env, ρ = [sh (.fzl (dints (n :: ns))), sh (.int k)] → eN fLen [eVar 0] ρ = .ok (.int ((ns.length + 1 : Nat) : Int)) := fun ρ h => by
      rw [h]
      show Res.ok (D.int (((dints (n :: ns)).length : Nat) : Int)) = _
      rw [List.length_map, List.length_cons]
    show (match sSeq _ _ [sh (.fzl (dints (n :: ns))), sh (.int k)] with | .nx _ => Res.ok D.non | .rt d => .ok d | .exc c _ => .exc c | _ => .stuck) = _
    rw [seq_nx (ρ' := [sh (.fzl (dints (n :: ns))), sh (.int k)]) (by
      rw [if_f]
      · rfl
      · refine tB_ok (b := false) ?_
        rw [e2_ok (x := .fzl (dints (n :: ns))) (y := .lst []) rfl rfl]
        unfold dEq
        have h1 : D.lay 20 (.fzl (dints (n :: ns))) = true := layAll_ints 19 (n :: ns)
        have h2 : D.lay 20 (.lst []) = true := rfl
        rw [h1, h2, Bool.and_true, Bool.or_true, if_pos rfl]
        rfl)]
    rw [ret_ok (d := .int (v + k / ((ns.length + 1 : Nat) : Int) * 104729))]
    refine e2_ok (op := dAdd) (x := .int v) (y := .int (k / ((ns.length + 1 : Nat) : Int) * 104729)) ?_ ?_
    · rw [e2_ok (x := .fzl (dints (n :: ns))) (y := .int (k % ((ns.length + 1 : Nat) : Int))) rfl]
      · show orS (atD (dints (n :: ns)) _) = _
        rw [h1]
        rfl
      · rw [e2_ok (x := .int k) (y := .int ((ns.length + 1 : Nat) : Int)) rfl (hlen _ rfl)]
        exact dMod_int hl0
    · rw [e2_ok (x := .int (k / ((ns.length + 1 : Nat) : Int))) (y := .int 104729) ?_ rfl]
      · exact dMul_int (mulOk_small (by decide))
      · rw [e2_ok (x := .int k) (y := .int ((ns.length + 1 : Nat) : Int)) rfl (hlen _ rfl)]
        refine dDiv_int (divOk_small hl0 ?_)
        have hl : ns.length + 1 ≤ 63 := hl
        omega
/-- the number drawn -/
def drw1 (c k : Int) : Int := (c * 6364136223846793005 + (k + 1) * 1442695040888963407) % 340282366920938463463374607431768211507
def drw2 (c k : Int) : Int := drw1 c k * drw1 c k % 340282366920938463463374607431768211297
def drw (c k : Int) : Int := (drw2 c k % 18446744073709551557 + 1) * (drw2 c k / 18446744073709551557 + 1) * drw2 c k % 340282366920938463463374607431768211507
theorem drw_range (c k : Int) : 0 ≤ drw c k ∧ drw c k < 340282366920938463463374607431768211507 := ⟨Int.emod_nonneg _ (by decide), Int.emod_lt_of_pos _ (by decide)⟩
theorem natAbs_lt {x : Int} {n : Nat} (h0 : 0 ≤ x) (h : x < (n : Int)) : x.natAbs < n := by omega
theorem mulOk_128 {x y : Int} (hx0 : 0 ≤ x) (hx : x < 2 ^ 300) (hy0 : 0 ≤ y) (hy : y < 2 ^ 300) : mulOk x y = true := by
  unfold mulOk
  have h1 : x.natAbs < 2 ^ 300 := by
    have : ((2 ^ 300 : Nat) : Int) = 2 ^ 300 := by norm_cast
    exact natAbs_lt hx0 (by rw [this]; exact hx)
  have h2 : y.natAbs < 2 ^ 300 := by
    have : ((2 ^ 300 : Nat) : Int) = 2 ^ 300 := by norm_cast
    exact natAbs_lt hy0 (by rw [this]; exact hy)
  have h1 := log2_lt_of h1 (by decide)
  have h2 := log2_lt_of h2 (by decide)
  rw [decide_eq_true (show x.natAbs.log2 + y.natAbs.log2 < 1000000 by omega), Bool.or_true]
theorem drawn_ok (c k : Int) : law_drawn [.int c, .int k] = .ok (.int (drw c k)) := by
  have a0 : 0 ≤ drw1 c k := Int.emod_nonneg _ (by decide)
  have a1 : drw1 c k < 340282366920938463463374607431768211507 := Int.emod_lt_of_pos _ (by decide)
  have b0 : 0 ≤ drw2 c k := Int.emod_nonneg _ (by decide)
  have b1 : drw2 c k < 340282366920938463463374607431768211297 := Int.emod_lt_of_pos _ (by decide)
  have c0 : 0 ≤ drw2 c k % 18446744073709551557 := Int.emod_nonneg _ (by decide)
  have c1 : drw2 c k % 18446744073709551557 < 18446744073709551557 := Int.emod_lt_of_pos _ (by decide)
  have d0 : 0 ≤ drw2 c k / 18446744073709551557 := Int.ediv_nonneg b0 (by decide)
  have d1 : drw2 c k / 18446744073709551557 ≤ drw2 c k := Int.ediv_le_self _ b0
  have e0 : 0 ≤ (drw2 c k % 18446744073709551557 + 1) * (drw2 c k / 18446744073709551557 + 1) := Int.mul_nonneg (by omega) (by omega)
  have e1 : (drw2 c k % 18446744073709551557 + 1) * (drw2 c k / 18446744073709551557 + 1) ≤ 18446744073709551558 * 340282366920938463463374607431768211508 := Int.mul_le_mul (by omega) (by omega) (by omega) (by decide)
  have m1 : dMul (.int c) (.int 6364136223846793005) = .ok (.int (c * 6364136223846793005)) := dMul_int (mulOk_small (by decide))
  have m2 : dMul (.int (k + 1)) (.int 1442695040888963407) = .ok (.int ((k + 1) * 1442695040888963407)) := dMul_int (mulOk_small (by decide))
  have m3 : dMul (.int (drw1 c k)) (.int (drw1 c k)) = .ok (.int (drw1 c k * drw1 c k)) := dMul_int (mulOk_128 a0 (by omega) a0 (by omega))
  have m4 : dMul (.int (drw2 c k % 18446744073709551557 + 1)) (.int (drw2 c k / 18446744073709551557 + 1)) = .ok (.int ((drw2 c k % 18446744073709551557 + 1) * (drw2 c k / 18446744073709551557 + 1))) := dMul_int (mulOk_128 (by omega) (by omega) (by omega) (by omega))
  have m5 : dMul (.int ((drw2 c k % 18446744073709551557 + 1) * (drw2 c k / 18446744073709551557 + 1))) (.int (drw2 c k)) = .ok (.int ((drw2 c k % 18446744073709551557 + 1) * (drw2 c k / 18446744073709551557 + 1) * drw2 c k)) := dMul_int (mulOk_128 e0 (by omega) b0 (by omega))
  show (match sSeq _ (sSeq _ (sSeq _ _)) [sh (.int c), sh (.int k), none] with | .nx _ => Res.ok D.non | .rt d => .ok d | .exc c _ => .exc c | _ => .stuck) = _
  rw [seq_nx (ρ' := [sh (.int c), sh (.int k), sh (.int (drw1 c k))]) (set_ok (e2_to (x := .int (c * 6364136223846793005 + (k + 1) * 1442695040888963407))
    (e2_to (x := .int (c * 6364136223846793005)) (y := .int ((k + 1) * 1442695040888963407)) (e2_to rfl rfl m1) (e2_to (x := .int (k + 1)) rfl rfl m2) rfl) rfl (dMod_int (by decide))) (by show 2 < 3; decide))]
  rw [seq_nx (ρ' := [sh (.int c), sh (.int k), sh (.int (drw2 c k))]) (set_ok (e2_to (x := .int (drw1 c k * drw1 c k)) (e2_to rfl rfl m3) rfl (dMod_int (by decide))) (by show 2 < 3; decide))]
  rw [seq_nx (ρ' := [sh (.int c), sh (.int k), sh (.int ((drw2 c k % 18446744073709551557 + 1) * (drw2 c k / 18446744073709551557 + 1) * drw2 c k))]) (set_ok
    (e2_to (x := .int ((drw2 c k % 18446744073709551557 + 1) * (drw2 c k / 18446744073709551557 + 1)))
      (e2_to (x := .int (drw2 c k % 18446744073709551557 + 1)) (y := .int (drw2 c k / 18446744073709551557 + 1))
        (e2_to (x := .int (drw2 c k % 18446744073709551557)) (e2_to rfl rfl (dMod_int (by decide))) rfl rfl)
        (e2_to (x := .int (drw2 c k / 18446744073709551557)) (e2_to rfl rfl (dDiv_int (divOk_small (by decide) (by decide)))) rfl rfl) m4) rfl m5) (by show 2 < 3; decide))]
  rw [ret_ok (e2_to rfl rfl (dMod_int (by decide)))]
  rfl
/-- the turns of a law -/
theorem turns_ok {n : Nat} {q : Int} {REST : DS} {L : List D → Res D} (hn : 3 ≤ n) (hq : 1 ≤ q ∧ q ≤ 10)
    (hL : L = runF n (sSeq (sFor (iRange1 (eN fMax2 [(eC (.int 1)), (eN fMin2 [(eC (.int q)), (eN fLen [(eVar 0)])])])) (gSet 1) (sSeq (sSet 2 (eN law_drawn [(eN law_cell [(eVar 0), (eVar 1)]), (eVar 1)])) REST)) (sRet (eC (.bl true)))))
    (h : ∀ (sc : List D) (k m : Int) (tl : Env), 0 ≤ k → k < 10 → 0 ≤ m → m < 340282366920938463463374607431768211507 → tl.length = n - 3 → ∃ tl', REST (sh (.fzl sc) :: sh (.int k) :: sh (.int m) :: tl) = .nx (sh (.fzl sc) :: tl') ∧ tl'.length = n - 1) :
    ∀ ns : List Int, ns.length ≤ 63 → L [.fzl (ns.map .int)] = .ok (.bl true) := fun ns hl => by
  subst hL
  obtain ⟨r, hr⟩ : ∃ r : Env, r = List.replicate (n - 1) none ∧ True := ⟨_, rfl, trivial⟩
  have hrl : r.length = n - 1 := by rw [hr.1, List.length_replicate]
  have start : (List.map (fun d => some (SV.sh d)) [D.fzl (dints ns)] ++ List.replicate (n - [D.fzl (dints ns)].length) none : Env) = sh (.fzl (dints ns)) :: r := by
    rw [hr.1]
    rfl
  unfold runF
  show (match sSeq _ _ (List.map (fun d => some (SV.sh d)) [D.fzl (dints ns)] ++ List.replicate (n - [D.fzl (dints ns)].length) none) with | .nx _ => Res.ok D.non | .rt d => .ok d | .exc c _ => .exc c | _ => .stuck) = _
  rw [start]
  obtain ⟨z, hz⟩ : ∃ z : Int, z = (if (if ((ns.length : Nat) : Int) < q then ((ns.length : Nat) : Int) else q) > 1 then (if ((ns.length : Nat) : Int) < q then ((ns.length : Nat) : Int) else q) else 1) := ⟨_, rfl⟩
  have hz2 : 1 ≤ z ∧ z ≤ 10 := by
    rw [hz]
    split
    · split <;> omega
    · omega
  have hit : iRange1 (eN fMax2 [(eC (.int 1)), (eN fMin2 [(eC (.int q)), (eN fLen [(eVar 0)])])]) (sh (.fzl (dints ns)) :: r) = .ok ((List.range z.toNat).map fun i => D.int (0 + (i : Nat))) := by
    have e1 : eN fLen [(eVar 0)] (sh (.fzl (dints ns)) :: r) = .ok (.int (ns.length : Nat)) := by
      show Res.ok (D.int (((dints ns).length : Nat) : Int)) = _
      rw [List.length_map]
    have e2 : eN fMin2 [(eC (.int q)), (eN fLen [(eVar 0)])] (sh (.fzl (dints ns)) :: r) = .ok (.int (if ((ns.length : Nat) : Int) < q then ((ns.length : Nat) : Int) else q)) :=
      eN_to (args_cons rfl (args_cons e1 args_nil)) rfl
    have e3 : eN fMax2 [(eC (.int 1)), (eN fMin2 [(eC (.int q)), (eN fLen [(eVar 0)])])] (sh (.fzl (dints ns)) :: r) = .ok (.int z) := by
      rw [hz]
      exact eN_to (args_cons rfl (args_cons e2 args_nil)) rfl
    unfold iRange1
    rw [e3]
    show rg 0 z = _
    rw [rg_ok (by unfold big; omega), Int.sub_zero]
  obtain ⟨ρ', h1, tl', h2⟩ := forD_inv (g := gSet 1) (b := sSeq (sSet 2 (eN law_drawn [(eN law_cell [(eVar 0), (eVar 1)]), (eVar 1)])) REST)
    (fun ds ρ => ∃ tl, ρ = sh (.fzl (dints ns)) :: tl ∧ tl.length = n - 1 ∧ ∀ d ∈ ds, ∃ k : Int, d = .int k ∧ 0 ≤ k ∧ k < 10)
    ((List.range z.toNat).map fun i => D.int (0 + (i : Nat))) (sh (.fzl (dints ns)) :: r) ⟨r, rfl, hrl, fun d hd => by
      obtain ⟨i, hi, rfl⟩ := List.mem_map.mp hd
      rw [List.mem_range] at hi
      exact ⟨_, rfl, by omega, by omega⟩⟩ (fun d ds ρ ⟨tl, e1, e2, e3⟩ => by
      obtain ⟨k, rfl, hk0, hk1⟩ := e3 d List.mem_cons_self
      obtain ⟨c, hc⟩ := cell_ok ns k hk0 hl
      subst e1
      match tl, e2 with
      | [], e2 => simp at e2; omega
      | [a], e2 => simp at e2; omega
      | a :: b :: tl, e2 =>
        have e2 : tl.length + 1 + 1 = n - 1 := e2
        obtain ⟨dr0, dr1⟩ := drw_range c k
        obtain ⟨tl', h1, h2⟩ := h (dints ns) k (drw c k) tl hk0 hk1 dr0 dr1 (by omega)
        refine ⟨sh (.fzl (dints ns)) :: sh (.int k) :: b :: tl, sh (.fzl (dints ns)) :: tl', ?_, ?_, tl', rfl, h2, fun d hd => e3 d (List.mem_cons_of_mem _ hd)⟩
        · show (if 1 < (sh (.fzl (dints ns)) :: a :: b :: tl).length then _ else _) = _
          rw [if_pos (by simp)]
          rfl
        · rw [seq_nx (ρ' := sh (.fzl (dints ns)) :: sh (.int k) :: sh (.int (drw c k)) :: tl) (set_ok (by
            rw [eN_ok (ds := [.int c, .int k]) (args_cons (by rw [eN_ok (ds := [.fzl (dints ns), .int k]) rfl]; exact hc) rfl)]
            exact drawn_ok c k) (by simp))]
          exact h1)
  rw [seq_nx ((sFor_ok hit).trans h1), ret_ok rfl]
/-- < of rows of whole numbers -/
def lexI : List Int → List Int → Bool
  | [], [] => false
  | [], _ :: _ => true
  | _ :: _, [] => false
  | x :: xs, y :: ys => if x = y then lexI xs ys else decide (x < y)
/-- < of pairs: a number, a row of numbers -/
def dLtD : D → D → Res D
  | .tup [.int n, .lst xs], .tup [.int m, .lst ys] => match intsOf xs, intsOf ys with
    | some ns, some ms => .ok (.bl (if n = m then lexI ns ms else decide (n < m)))
    | _, _ => .stuck
  | _, _ => .stuck
theorem intsOf_eq : ∀ {xs : List D} {ns : List Int}, intsOf xs = some ns → xs = dints ns
  | [], ns, h => by
    cases h
    rfl
  | .int i :: r, ns, h => by
    unfold intsOf at h
    cases e : intsOf r with
    | none => rw [e] at h; cases h
    | some ms =>
      rw [e] at h
      cases h
      rw [intsOf_eq e]
      rfl
  | .non :: _, _, h => by cases h
  | .bl _ :: _, _, h => by cases h
  | .str _ :: _, _, h => by cases h
  | .lst _ :: _, _, h => by cases h
  | .tup _ :: _, _, h => by cases h
  | .dic _ _ :: _, _, h => by cases h
  | .exo _ :: _, _, h => by cases h
  | .clo _ _ :: _, _, h => by cases h
  | .fzl _ :: _, _, h => by cases h
  | .fzd _ _ :: _, _, h => by cases h
end NB
end

section
set_option linter.all false
set_option autoImplicit false
set_option maxRecDepth 100000
namespace NB
open Res
/-! NBSim: the operations on values of known kinds, for simp -/
theorem while_end {c : DT} {b : DS} {ρ : Env} {n : Nat} (h : c ρ = .ok false) : whileD c b (n + 1) ρ = .nx ρ := by
  show ofR ρ (c ρ) _ = _
  rw [h]
  rfl
theorem while_step {c : DT} {b : DS} {ρ ρ' : Env} {n : Nat} {o : Out} (h : c ρ = .ok true) (h2 : b ρ = .nx ρ') (h3 : whileD c b n ρ' = o) : whileD c b (n + 1) ρ = o := by
  show ofR ρ (c ρ) _ = _
  rw [h]
  show (match b ρ with | .nx ρ' => whileD c b n ρ' | .ct ρ' => whileD c b n ρ' | .bk ρ' => .nx ρ' | .rt d => .rt d | .exc k ρ' => .exc k ρ' | .stuck => .stuck) = _
  rw [h2]
  exact h3
theorem while_ret {c : DT} {b : DS} {ρ : Env} {n : Nat} {d : D} (h : c ρ = .ok true) (h2 : b ρ = .rt d) : whileD c b (n + 1) ρ = .rt d := by
  show ofR ρ (c ρ) _ = _
  rw [h]
  show (match b ρ with | .nx ρ' => whileD c b n ρ' | .ct ρ' => whileD c b n ρ' | .bk ρ' => .nx ρ' | .rt d => .rt d | .exc k ρ' => .exc k ρ' | .stuck => .stuck) = _
  rw [h2]
theorem while_brk {c : DT} {b : DS} {ρ ρ' : Env} {n : Nat} (h : c ρ = .ok true) (h2 : b ρ = .bk ρ') : whileD c b (n + 1) ρ = .nx ρ' := by
  show ofR ρ (c ρ) _ = _
  rw [h]
  show (match b ρ with | .nx ρ' => whileD c b n ρ' | .ct ρ' => whileD c b n ρ' | .bk ρ' => .nx ρ' | .rt d => .rt d | .exc k ρ' => .exc k ρ' | .stuck => .stuck) = _
  rw [h2]
theorem v_addI (i j : Int) : dAdd (.int i) (.int j) = .ok (.int (i + j)) := rfl
theorem v_addS (x y : List Nat) (h : x.length + y.length ≤ 16777216) : dAdd (.str x) (.str y) = .ok (.str (x ++ y)) := if_pos h
theorem v_addL (x y : List D) (h : x.length + y.length ≤ 16777216) : dAdd (.lst x) (.lst y) = .ok (.lst (x ++ y)) := if_pos h
theorem v_addT (x y : List D) (h : x.length + y.length ≤ 16777216) : dAdd (.tup x) (.tup y) = .ok (.tup (x ++ y)) := if_pos h
theorem v_subI (i j : Int) : dSub (.int i) (.int j) = .ok (.int (i - j)) := rfl
theorem v_mulI (i j : Int) (h : mulOk i j = true) : dMul (.int i) (.int j) = .ok (.int (i * j)) := if_pos h
theorem v_mulS (x : List Nat) (n : Nat) (h : x.length * n ≤ 16777216) (h2 : n ≤ 16777216) : dMul (.str x) (.int (n : Nat)) = .ok (.str (repl n x)) := by
  show (if x.length * (n : Int).toNat ≤ line ∧ -9223372036854775808 ≤ (n : Int) ∧ (n : Int) < 9223372036854775808 then Res.ok (D.str (repl (n : Int).toNat x)) else .stuck) = _
  rw [Int.toNat_natCast, if_pos (by
    refine ⟨h, ?_, ?_⟩ <;> omega)]
theorem v_mulL (x : List D) (n : Nat) (h : x.length * n ≤ 16777216) (h2 : n ≤ 16777216) : dMul (.lst x) (.int (n : Nat)) = .ok (.lst (repl n x)) := by
  show (if x.length * (n : Int).toNat ≤ line ∧ -9223372036854775808 ≤ (n : Int) ∧ (n : Int) < 9223372036854775808 then Res.ok (D.lst (repl (n : Int).toNat x)) else .stuck) = _
  rw [Int.toNat_natCast, if_pos (by
    refine ⟨h, ?_, ?_⟩ <;> omega)]
theorem repl1 {α : Type} (a : α) : ∀ n : Nat, repl n [a] = List.replicate n a
  | 0 => rfl
  | n + 1 => by
    show a :: repl n [a] = _
    rw [repl1 a n]
    rfl
theorem v_ltI (i j : Int) : dLt (.int i) (.int j) = .ok (.bl (decide (i < j))) := rfl
theorem v_leI (i j : Int) : dLe (.int i) (.int j) = .ok (.bl (decide (i ≤ j))) := rfl
theorem v_gtI (i j : Int) : dGt (.int i) (.int j) = .ok (.bl (decide (j < i))) := rfl
theorem v_geI (i j : Int) : dGe (.int i) (.int j) = .ok (.bl (decide (j ≤ i))) := rfl
theorem v_ltS (x y : List Nat) : dLt (.str x) (.str y) = .ok (.bl (ltN x y)) := rfl
theorem v_eqI (x y : Int) : dEq (.int x) (.int y) = .ok (.bl (decide (x = y))) := dEq_int x y
theorem v_neI (x y : Int) : dNe (.int x) (.int y) = .ok (.bl (!decide (x = y))) := dNe_int x y
theorem v_eqS (x y : List Nat) : dEq (.str x) (.str y) = .ok (.bl (decide (x = y))) := by
  show Res.ok (D.bl (x == y)) = _
  rw [show (x == y) = decide (x = y) from by by_cases h : x = y <;> simp [h]]
theorem v_neS (x y : List Nat) : dNe (.str x) (.str y) = .ok (.bl (!decide (x = y))) := by
  show Res.ok (D.bl (!(x == y))) = _
  rw [show (x == y) = decide (x = y) from by by_cases h : x = y <;> simp [h]]
theorem v_eqB (x y : Bool) : dEq (.bl x) (.bl y) = .ok (.bl (decide (x = y))) := by cases x <;> cases y <;> rfl
theorem v_neB (x y : Bool) : dNe (.bl x) (.bl y) = .ok (.bl (!decide (x = y))) := by cases x <;> cases y <;> rfl
theorem v_lenS (x : List Nat) (h : x.length ≤ 16777216) : dLen (.str x) = .ok (.int (x.length : Nat)) := if_pos h
theorem v_lenL (x : List D) : dLen (.lst x) = .ok (.int (x.length : Nat)) := rfl
theorem v_lenT (x : List D) : dLen (.tup x) = .ok (.int (x.length : Nat)) := rfl
theorem v_revS (x : List Nat) (h : x.length ≤ 16777216) : dRev (.str x) = .ok (.str x.reverse) := if_pos h
theorem v_revL (x : List D) : dRev (.lst x) = .ok (.lst x.reverse) := rfl
theorem v_int (i : Int) : fInt [.int i] = .ok (.int i) := rfl
theorem v_intB (b : Bool) : fInt [.bl b] = .ok (.int (if b then 1 else 0)) := rfl
theorem v_lst (xs : List D) (h : xs.length ≤ 16777216) : dLst xs = .ok (.lst xs) := if_pos h
theorem v_tup (xs : List D) (h : xs.length ≤ 16777216) : dTup xs = .ok (.tup xs) := if_pos h
theorem v_lst1 (a : D) : dLst [a] = .ok (.lst [a]) := rfl
theorem v_lst0 : dLst [] = .ok (.lst []) := rfl
theorem v_tup2 (a b : D) : dTup [a, b] = .ok (.tup [a, b]) := rfl
theorem v_tup3 (a b c : D) : dTup [a, b, c] = .ok (.tup [a, b, c]) := rfl
theorem atD_nat {α : Type} (xs : List α) {d : Nat} (h : d < xs.length) : atD xs (d : Nat) = xs[d]? := by
  unfold atD place
  rw [if_pos (by omega), if_pos (by omega)]
  rfl
theorem v_ixS {s : List Nat} {d : Nat} (h : d < s.length) (hl : s.length ≤ 16777216) : dIx (.str s) (.int (d : Nat)) = .ok (.str [s.getD d 0]) := by
  show (if s.length ≤ line then orS ((atD s (d : Nat)).map fun c => D.str [c]) else .stuck) = _
  rw [if_pos hl, atD_nat s h, List.getElem?_eq_getElem h, List.getD_eq_getElem?_getD, List.getElem?_eq_getElem h]
  rfl
theorem v_ixL {xs : List D} {d : Nat} {x : D} (h : xs[d]? = some x) : dIx (.lst xs) (.int (d : Nat)) = .ok x := by
  have hl : d < xs.length := (List.getElem?_eq_some_iff.mp h).1
  show orS (atD xs (d : Nat)) = _
  rw [atD_nat xs hl, h]
  rfl
theorem v_ixT {xs : List D} {d : Nat} {x : D} (h : xs[d]? = some x) : dIx (.tup xs) (.int (d : Nat)) = .ok x := by
  have hl : d < xs.length := (List.getElem?_eq_some_iff.mp h).1
  show orS (atD xs (d : Nat)) = _
  rw [atD_nat xs hl, h]
  rfl
/-- slices with bounds from 0 on -/
theorem cut_hi {α : Type} (xs : List α) (k : Nat) : cut xs none (some (k : Nat)) = xs.take k := by
  show (xs.drop 0).take (sIx xs.length xs.length (some ((k : Nat) : Int)) - 0) = _
  rw [List.drop_zero, Nat.sub_zero]
  unfold sIx
  simp only []
  rw [if_neg (by omega), Int.toNat_natCast]
  rcases Nat.le_total k xs.length with h | h
  · rw [Nat.min_eq_left h]
  · rw [Nat.min_eq_right h, List.take_of_length_le (Nat.le_refl _), List.take_of_length_le h]
theorem cut_lo {α : Type} (xs : List α) (k : Nat) : cut xs (some (k : Nat)) none = xs.drop k := by
  show (xs.drop (sIx xs.length 0 (some ((k : Nat) : Int)))).take (xs.length - sIx xs.length 0 (some ((k : Nat) : Int))) = _
  unfold sIx
  simp only []
  rw [if_neg (by omega), Int.toNat_natCast]
  rcases Nat.le_total k xs.length with h | h
  · rw [Nat.min_eq_left h, List.take_of_length_le (by rw [List.length_drop]; exact Nat.le_refl _)]
  · rw [Nat.min_eq_right h, List.drop_of_length_le (Nat.le_refl _), List.drop_of_length_le h, List.take_nil]
theorem cut_both {α : Type} (xs : List α) (j k : Nat) : cut xs (some (j : Nat)) (some (k : Nat)) = (xs.drop j).take (k - j) := by
  show (xs.drop (sIx xs.length 0 (some ((j : Nat) : Int)))).take (sIx xs.length xs.length (some ((k : Nat) : Int)) - sIx xs.length 0 (some ((j : Nat) : Int))) = _
  unfold sIx
  simp only []
  rw [if_neg (by omega), if_neg (by omega), Int.toNat_natCast, Int.toNat_natCast]
  rcases Nat.le_total j xs.length with h | h
  · rw [Nat.min_eq_left h]
    rcases Nat.le_total k xs.length with h2 | h2
    · rw [Nat.min_eq_left h2]
    · rw [Nat.min_eq_right h2, List.take_of_length_le (by rw [List.length_drop]; exact Nat.le_refl _), List.take_of_length_le (by rw [List.length_drop]; omega)]
  · rw [Nat.min_eq_right h, List.drop_of_length_le (Nat.le_refl _), List.drop_of_length_le h, List.take_nil, List.take_nil]
theorem v_cutS (x : List Nat) (lo hi : Option Int) (h : x.length ≤ 16777216) : dCut lo hi (.str x) = .ok (.str (cut x lo hi)) := if_pos h
theorem v_cutL (x : List D) (lo hi : Option Int) : dCut lo hi (.lst x) = .ok (.lst (cut x lo hi)) := rfl
theorem v_cutT (x : List D) (lo hi : Option Int) : dCut lo hi (.tup x) = .ok (.tup (cut x lo hi)) := rfl
theorem v_iseqS (a : DE) (ρ : Env) (x : List Nat) (h : a ρ = .ok (.str x)) : iSeq a ρ = .ok (x.map fun c => .str [c]) := by unfold iSeq; rw [h]; rfl
theorem range1 {ρ : Env} {a : DE} {z : Int} (h : a ρ = .ok (.int z)) (h1 : z ≤ 1000000000) (h0 : -1000000000 ≤ z) : iRange1 a ρ = .ok ((List.range z.toNat).map fun i => D.int (i : Nat)) := by
  unfold iRange1
  rw [h]
  show rg 0 z = _
  rw [rg_ok (by unfold big; omega), Int.sub_zero]
  congr 2
  funext i
  rw [Int.zero_add]
/-- a loop over the turns -/
theorem for_nil {g : DG} {b : DS} {ρ : Env} : forD g b [] ρ = .nx ρ := rfl
theorem for_cons {g : DG} {b : DS} {d : D} {ds : List D} {ρ ρ1 ρ2 : Env} {o : Out} (hg : g d ρ = .ok ρ1) (hb : b ρ1 = .nx ρ2) (h : forD g b ds ρ2 = o) : forD g b (d :: ds) ρ = o := forD_cons hg hb h
theorem fAll_b (bs : List Bool) : fAll [.lst (bs.map D.bl)] = .ok (.bl (bs.all id)) := by
  show (match blsOf (bs.map D.bl) with | some bs => Res.ok (D.bl (bs.all id)) | none => .stuck) = _
  rw [blsOf_bls]
theorem fAny_b (bs : List Bool) : fAny [.lst (bs.map D.bl)] = .ok (.bl (bs.any id)) := by
  show (match blsOf (bs.map D.bl) with | some bs => Res.ok (D.bl (bs.any id)) | none => .stuck) = _
  rw [blsOf_bls]
/-- all([sign in .. for sign in text]) -/
theorem all_sgn {ρ : Env} {it : DI} {j : Nat} {e : DE} {x y : List Nat} (hi : it ρ = .ok (x.map fun c => D.str [c])) (hx : x.length ≤ 16777216) (he : ∀ c ∈ x, ∃ ρ', gSet j (.str [c]) (wipeE ρ [j]) = .ok ρ' ∧ e ρ' = .ok (.bl (decide (c ∈ y)))) :
    eN fAll [(eLc it [j] (gSet j) tYes e)] ρ = .ok (.bl (x.all fun c => decide (c ∈ y))) := by
  refine eN_to (args_cons (eLc_map (φ := fun d => match d with | .str [c] => .bl (decide (c ∈ y)) | _ => .non) hi (fun d hd => by
    obtain ⟨c, hc, rfl⟩ := List.mem_map.mp hd
    exact he c hc) (by rw [List.length_map]; exact hx)) args_nil) ?_
  have e1 : (List.map (fun d => match d with | D.str [c] => D.bl (decide (c ∈ y)) | _ => D.non) (x.map fun c => D.str [c])) = (x.map fun c => decide (c ∈ y)).map D.bl := by
    rw [List.map_map, List.map_map]
    rfl
  rw [e1, fAll_b, List.all_map]
  rfl
theorem v_inS (c : Nat) (y : List Nat) : dIn (.str [c]) (.str y) = .ok (.bl (decide (c ∈ y))) := rfl
theorem v_notInS (c : Nat) (y : List Nat) : dNotIn (.str [c]) (.str y) = .ok (.bl (!decide (c ∈ y))) := rfl
/-- a text's index of a sign -/
theorem strsOf_map : ∀ xs : List (List Nat), strsOf (xs.map D.str) = some xs
  | [] => rfl
  | x :: xs => by
    show (strsOf (xs.map D.str)).map _ = _
    rw [strsOf_map xs]
    rfl
theorem joinL_nil : ∀ xs : List (List Nat), joinL [] xs = xs.flatten
  | [] => rfl
  | [x] => by simp [joinL]
  | x :: y :: r => by
    show x ++ [] ++ joinL [] (y :: r) = _
    rw [joinL_nil (y :: r)]
    simp
theorem sumLen_flat : ∀ xs : List (List Nat), sumLen xs = xs.flatten.length
  | [] => rfl
  | x :: r => by
    show x.length + sumLen r = _
    rw [sumLen_flat r]
    simp
theorem v_join0 (xs : List (List Nat)) (h : xs.flatten.length ≤ 16777216) : dJoin (.str []) (.lst (xs.map D.str)) = .ok (.str xs.flatten) := by
  show (match strsOf (xs.map D.str) with | some ys => if sumLen ys + ys.length * 0 ≤ line then Res.ok (D.str (joinL [] ys)) else .stuck | none => .stuck) = _
  rw [strsOf_map]
  show (if sumLen xs + xs.length * 0 ≤ line then Res.ok (D.str (joinL [] xs)) else .stuck) = _
  rw [sumLen_flat, if_pos (by rw [Nat.mul_zero]; exact h), joinL_nil]
/-- signs as texts of one sign -/
abbrev sgns (x : List Nat) : List D := x.map fun c => D.str [c]
theorem v_joinS (x : List Nat) (h : x.length ≤ 16777216) : dJoin (.str []) (.lst (sgns x)) = .ok (.str x) := by
  have e : sgns x = (x.map fun c => [c]).map D.str := by
    unfold sgns
    rw [List.map_map]
    rfl
  have e2 : (x.map fun c => [c]).flatten = x := by
    clear h e
    induction x with
    | nil => rfl
    | cons c r ih => simp [ih]
  rw [e, v_join0 _ (by rw [e2]; exact h), e2]
theorem v_set (i : Nat) (e : DE) (ρ : Env) : sSet i e ρ = ofR ρ (e ρ) fun d => if i < ρ.length then .nx (ρ.set i (some (.sh d))) else .stuck := by
  unfold sSet sAsg ofR
  cases e ρ with
  | ok d =>
    show (match gSet i d ρ with | .ok ρ' => Out.nx ρ' | _ => .stuck) = _
    unfold gSet
    by_cases h : i < ρ.length
    · simp only [h, if_true]
    · simp only [h, if_false]
  | exc _ => rfl
  | stuck => rfl
theorem lcGo_on {α : Type} {g : DG} {e : DE} {ρ : Env} (f h : α → D) : ∀ (l : List α) (acc : List D), (∀ x ∈ l, ∃ ρ', g (f x) ρ = .ok ρ' ∧ e ρ' = .ok (h x)) → acc.length + l.length ≤ line → lcGo g tYes e ρ (l.map f) acc = .ok (acc ++ l.map h)
  | [], acc, _, _ => by simp [lcGo]
  | x :: l, acc, q, hl => by
    obtain ⟨ρ', h1, h2⟩ := q x List.mem_cons_self
    have hl' : acc.length + (l.length + 1) ≤ line := hl
    rw [List.map_cons]
    unfold lcGo
    simp only [h1, tYes, h2]
    show (if acc.length < line then lcGo g tYes e ρ (l.map f) (acc ++ [h x]) else .stuck) = _
    rw [if_pos (by omega), lcGo_on f h l (acc ++ [h x]) (fun y hy => q y (List.mem_cons_of_mem _ hy)) (by rw [List.length_append, List.length_singleton]; omega)]
    simp
/-- [e for g in it] over what stands for l -/
theorem eLc_on {α : Type} {it : DI} {vs : List Nat} {g : DG} {e : DE} {ρ : Env} (l : List α) (f h : α → D) (hi : it ρ = .ok (l.map f)) (q : ∀ x ∈ l, ∃ ρ', g (f x) (wipeE ρ vs) = .ok ρ' ∧ e ρ' = .ok (h x)) (hl : l.length ≤ 16777216) : eLc it vs g tYes e ρ = .ok (.lst (l.map h)) := by
  unfold eLc
  rw [hi]
  show (lcGo g tYes e (wipeE ρ vs) (l.map f) []).bind _ = _
  rw [lcGo_on f h l [] q (by simpa using hl)]
  rfl
theorem lcGo_onF {α : Type} {g : DG} {e : DE} {c : DT} {ρ : Env} (f h : α → D) (p : α → Bool) : ∀ (l : List α) (acc : List D), (∀ x ∈ l, ∃ ρ', g (f x) ρ = .ok ρ' ∧ c ρ' = .ok (p x) ∧ (p x = true → e ρ' = .ok (h x))) → acc.length + l.length ≤ line → lcGo g c e ρ (l.map f) acc = .ok (acc ++ (l.filter p).map h)
  | [], acc, _, _ => by simp [lcGo]
  | x :: l, acc, q, hl => by
    obtain ⟨ρ', h1, h2, h3⟩ := q x List.mem_cons_self
    have hl' : acc.length + (l.length + 1) ≤ line := hl
    have ih := fun acc hl => lcGo_onF f h p l acc (fun y hy => q y (List.mem_cons_of_mem _ hy)) hl
    rw [List.map_cons]
    unfold lcGo
    simp only [h1, h2]
    cases hp : p x with
    | true =>
      simp only [h3 hp]
      show (if acc.length < line then lcGo g c e ρ (l.map f) (acc ++ [h x]) else .stuck) = _
      rw [if_pos (by omega), ih (acc ++ [h x]) (by rw [List.length_append, List.length_singleton]; omega), List.filter_cons_of_pos hp]
      simp
    | false =>
      show lcGo g c e ρ (l.map f) acc = _
      rw [ih acc (by omega), List.filter_cons_of_neg (by rw [hp]; exact Bool.false_ne_true)]
theorem eLc_onF {α : Type} {it : DI} {vs : List Nat} {g : DG} {e : DE} {c : DT} {ρ : Env} (l : List α) (f h : α → D) (p : α → Bool) (hi : it ρ = .ok (l.map f)) (q : ∀ x ∈ l, ∃ ρ', g (f x) (wipeE ρ vs) = .ok ρ' ∧ c ρ' = .ok (p x) ∧ (p x = true → e ρ' = .ok (h x))) (hl : l.length ≤ 16777216) : eLc it vs g c e ρ = .ok (.lst ((l.filter p).map h)) := by
  unfold eLc
  rw [hi]
  show (lcGo g c e (wipeE ρ vs) (l.map f) []).bind _ = _
  rw [lcGo_onF f h p l [] q (by simpa using hl)]
  rfl
/-- a loop with no way out, over what stands for l -/
theorem for_inv {α : Type} {g : DG} {b : DS} (f : α → D) (I : List α → Env → Prop) : ∀ (l : List α) (ρ : Env), I l ρ → (∀ x l ρ, I (x :: l) ρ → ∃ ρ1 ρ2, g (f x) ρ = .ok ρ1 ∧ b ρ1 = .nx ρ2 ∧ I l ρ2) → ∃ ρ', forD g b (l.map f) ρ = .nx ρ' ∧ I [] ρ'
  | [], ρ, h, _ => ⟨ρ, rfl, h⟩
  | x :: l, ρ, h, hs => by
    obtain ⟨ρ1, ρ2, h1, h2, h3⟩ := hs x l ρ h
    obtain ⟨ρ', h4, h5⟩ := for_inv f I l ρ2 h3 hs
    exact ⟨ρ', for_cons h1 h2 h4, h5⟩
theorem lay_str {x : List Nat} (h : ∀ c ∈ x, c < 1114112) (n : Nat) : D.lay n (.str x) = true := by
  have : (x.all fun c => decide (c < 1114112)) = true := List.all_eq_true.mpr fun c hc => decide_eq_true (h c hc)
  cases n <;> exact this
theorem lay_int (i : Int) (n : Nat) : D.lay n (.int i) = true := by cases n <;> rfl
mutual
theorem eqv_refl' : ∀ d : D, (∃ n, D.lay n d = true) → D.eqv d d = true
  | .non, _ => rfl
  | .bl b, _ => by cases b <;> rfl
  | .int i, _ => by show (i == i) = true; simp
  | .str x, _ => by show (x == x) = true; simp
  | .lst xs, ⟨n, h⟩ => by
    cases n with
    | zero => cases h
    | succ n => exact eqvAll_refl' xs ⟨n, h⟩
  | .tup xs, ⟨n, h⟩ => by
    cases n with
    | zero => cases h
    | succ n => exact eqvAll_refl' xs ⟨n, h⟩
  | .fzl xs, ⟨n, h⟩ => by
    cases n with
    | zero => cases h
    | succ n => exact eqvAll_refl' xs ⟨n, h⟩
  | .dic _ _, ⟨n, h⟩ => by cases n <;> cases h
  | .exo _, ⟨n, h⟩ => by cases n <;> cases h
  | .clo _ _, ⟨n, h⟩ => by cases n <;> cases h
  | .fzd _ _, ⟨n, h⟩ => by cases n <;> cases h
theorem eqvAll_refl' : ∀ ds : List D, (∃ n, D.layAll n ds = true) → D.eqvAll ds ds = true
  | [], _ => rfl
  | d :: ds, ⟨n, h⟩ => by
    have h : (D.lay n d && D.layAll n ds) = true := h
    rw [Bool.and_eq_true] at h
    show (D.eqv d d && D.eqvAll ds ds) = true
    rw [eqv_refl' d ⟨n, h.1⟩, eqvAll_refl' ds ⟨n, h.2⟩]
    rfl
end
/-- what is equal by itself -/
theorem ne_self {d : D} (h : D.lay 20 d = true) : dNe d d = .ok (.bl false) := by
  unfold dNe
  rw [h, Bool.and_true, Bool.or_true, if_pos rfl, eqv_refl' d ⟨20, h⟩]
  rfl
theorem eq_self {d : D} (h : D.lay 20 d = true) : dEq d d = .ok (.bl true) := by
  unfold dEq
  rw [h, Bool.and_true, Bool.or_true, if_pos rfl, eqv_refl' d ⟨20, h⟩]
theorem lay_all {n : Nat} : ∀ {ds : List D}, (∀ d ∈ ds, D.lay n d = true) → D.layAll n ds = true
  | [], _ => by cases n <;> rfl
  | d :: ds, h => by
    show (D.lay n d && D.layAll n ds) = true
    rw [h d List.mem_cons_self, lay_all fun x hx => h x (List.mem_cons_of_mem _ hx)]
    rfl
theorem v_pick (xs : List D) (h : Int) (L : Int) (hl : (xs.length : Int) = L) (h0 : 0 < L) : ∃ x ∈ xs, dIx (.lst xs) (.int (h % L)) = .ok x := by
  have m0 := Int.emod_nonneg h (Int.ne_of_gt h0)
  have m1 := Int.emod_lt_of_pos h h0
  obtain ⟨i, hi⟩ : ∃ i : Nat, h % L = (i : Nat) := ⟨(h % L).toNat, by omega⟩
  have hi2 : i < xs.length := by omega
  exact ⟨xs[i], List.getElem_mem _, by rw [hi]; exact v_ixL (List.getElem?_eq_getElem hi2)⟩
theorem drawn_at {ρ : Env} {a b : DE} {m c : Int} (h : a ρ = .ok (.int m)) (h2 : b ρ = .ok (.int c)) : eN law_drawn [a, b] ρ = .ok (.int (drw m c)) := eN_to (args_cons h (args_cons h2 rfl)) (drawn_ok m c)
end NB
end

section
set_option linter.all false
set_option autoImplicit false
set_option maxRecDepth 100000
namespace NB
open Res
/-! the row 1, 2, 3, 5, 8 ..: the maths -/
def fb : Nat → Int
  | 0 => 1
  | 1 => 2
  | n + 2 => fb (n + 1) + fb n
theorem fb_pos : ∀ n, 0 < fb n
  | 0 => by decide
  | 1 => by decide
  | n + 2 => by
    have := fb_pos n
    have := fb_pos (n + 1)
    show 0 < fb (n + 1) + fb n
    omega
theorem fb_lt : ∀ n, fb n < fb (n + 1)
  | 0 => by decide
  | n + 1 => by
    have := fb_pos n
    show fb (n + 1) < fb (n + 1) + fb n
    omega
theorem fb_le {m : Nat} : ∀ {n : Nat}, m ≤ n → fb m ≤ fb n
  | 0, h => by
    have : m = 0 := by omega
    subst this
    exact Int.le_refl _
  | n + 1, h => by
    by_cases e : m = n + 1
    · subst e
      exact Int.le_refl _
    · have := fb_le (m := m) (n := n) (by omega)
      have := fb_lt n
      omega
theorem fb_two : ∀ n, fb (n + 1) ≤ 2 * fb n
  | 0 => by decide
  | n + 1 => by
    have := fb_lt n
    show fb (n + 1) + fb n ≤ _
    omega
/-- what a text comes to -/
def wv : List Nat → Int
  | [] => 0
  | c :: r => (if c = 49 then fb r.length else 0) + wv r
/-- the greatest first -/
def gr : Nat → Int → List Nat
  | 0, _ => []
  | k + 1, n => if fb k ≤ n then 49 :: gr k (n - fb k) else 48 :: gr k n
def Bits (x : List Nat) : Prop := ∀ c ∈ x, c = 48 ∨ c = 49
def No11 : List Nat → Prop
  | a :: b :: r => ¬(a = 49 ∧ b = 49) ∧ No11 (b :: r)
  | _ => True
theorem gr_len : ∀ (k : Nat) (n : Int), (gr k n).length = k
  | 0, _ => rfl
  | k + 1, n => by
    unfold gr
    split
    · rw [List.length_cons, gr_len]
    · rw [List.length_cons, gr_len]
theorem gr_bits : ∀ (k : Nat) (n : Int), Bits (gr k n)
  | 0, _ => fun c h => by cases h
  | k + 1, n => by
    unfold gr
    split
    · intro c h
      rcases List.mem_cons.mp h with rfl | h
      · exact .inr rfl
      · exact gr_bits k _ c h
    · intro c h
      rcases List.mem_cons.mp h with rfl | h
      · exact .inl rfl
      · exact gr_bits k _ c h
theorem gr_wv : ∀ (k : Nat) (n : Int), 0 ≤ n → n < fb k → wv (gr k n) = n
  | 0, n, h0, h1 => by
    have h1 : n < 1 := h1
    show (0 : Int) = n
    omega
  | k + 1, n, h0, h1 => by
    have h2 := fb_two k
    unfold gr
    split
    · show (if 49 = 49 then fb (gr k (n - fb k)).length else 0) + wv (gr k (n - fb k)) = n
      rw [if_pos rfl, gr_len, gr_wv k (n - fb k) (by omega) (by omega)]
      omega
    · show (if 48 = 49 then fb (gr k n).length else 0) + wv (gr k n) = n
      rw [if_neg (by decide), gr_wv k n h0 (by omega), Int.zero_add]
theorem gr_no11 : ∀ (k : Nat) (n : Int), 0 ≤ n → n < fb k → No11 (gr k n)
  | 0, n, _, _ => trivial
  | 1, n, _, _ => by
    unfold gr
    split <;> exact trivial
  | k + 2, n, h0, h1 => by
    have h1 : n < fb (k + 1) + fb k := h1
    have h2 := fb_lt k
    unfold gr
    split
    · have ih := gr_no11 (k + 1) (n - fb (k + 1)) (by omega) (by omega)
      unfold gr at ih ⊢
      rw [if_neg (by omega)] at ih ⊢
      exact ⟨by decide, ih⟩
    · have ih := gr_no11 (k + 1) n h0 (by omega)
      cases z : gr (k + 1) n with
      | nil => trivial
      | cons b r =>
        rw [z] at ih
        exact ⟨fun h => absurd h.1 (by decide), ih⟩
theorem wv_nonneg : ∀ x : List Nat, 0 ≤ wv x
  | [] => by decide
  | c :: r => by
    have := wv_nonneg r
    have := fb_pos r.length
    show 0 ≤ (if c = 49 then fb r.length else 0) + wv r
    split <;> omega
theorem No11.tail {a : Nat} {r : List Nat} (h : No11 (a :: r)) : No11 r := by
  cases r with
  | nil => trivial
  | cons b r => exact h.2
theorem no11_lt : ∀ (x : List Nat), No11 x → wv x < fb x.length
  | [], _ => by decide
  | [a], _ => by
    show (if a = 49 then fb 0 else 0) + 0 < fb 1
    split <;> decide
  | a :: b :: r, h => by
    have h1 := no11_lt (b :: r) h.2
    have h2 := no11_lt r (No11.tail h.2)
    have h3 := fb_lt (r.length + 1)
    have h4 : fb (r.length + 2) = fb (r.length + 1) + fb r.length := rfl
    show (if a = 49 then fb (r.length + 1) else 0) + wv (b :: r) < fb (r.length + 2)
    by_cases ha : a = 49
    · rw [if_pos ha]
      have hb : ¬ b = 49 := fun z => h.1 ⟨ha, z⟩
      show fb (r.length + 1) + ((if b = 49 then fb r.length else 0) + wv r) < _
      rw [if_neg hb]
      omega
    · rw [if_neg ha]
      have h1 : wv (b :: r) < fb (r.length + 1) := h1
      have h5 : fb (r.length + 1) < fb (r.length + 2) := h3
      show 0 + wv (b :: r) < _
      omega
theorem gr_of : ∀ (x : List Nat), Bits x → No11 x → gr x.length (wv x) = x
  | [], _, _ => rfl
  | a :: r, hb, h => by
    have ih := gr_of r (fun c hc => hb c (List.mem_cons_of_mem _ hc)) h.tail
    have lt := no11_lt r h.tail
    show gr (r.length + 1) ((if a = 49 then fb r.length else 0) + wv r) = a :: r
    rcases hb a List.mem_cons_self with rfl | rfl
    · rw [if_neg (by decide), Int.zero_add]
      unfold gr
      rw [if_neg (by omega), ih]
    · rw [if_pos rfl]
      unfold gr
      rw [if_pos (by have := wv_nonneg r; omega), show fb r.length + wv r - fb r.length = wv r by omega, ih]
/-- without noughts ahead -/
def st (x : List Nat) : List Nat := x.dropWhile fun c => [48].contains c
theorem st_0 (r : List Nat) : st (48 :: r) = st r := rfl
theorem st_1 (r : List Nat) : st (49 :: r) = 49 :: r := rfl
/-- how many of the row a number reaches -/
def tp (n : Int) : Nat → Nat
  | 0 => 0
  | k + 1 => if fb k ≤ n then k + 1 else tp n k
theorem tp_le (n : Int) : ∀ k, tp n k ≤ k
  | 0 => Nat.le_refl _
  | k + 1 => by
    unfold tp
    split
    · exact Nat.le_refl _
    · exact Nat.le_succ_of_le (tp_le n k)
theorem st_gr (n : Int) : ∀ k, st (gr k n) = gr (tp n k) n
  | 0 => rfl
  | k + 1 => by
    unfold tp
    split
    · rename_i h
      show st (gr (k + 1) n) = gr (k + 1) n
      unfold gr
      rw [if_pos h]
      rfl
    · rename_i h
      rw [← st_gr n k]
      show st (gr (k + 1) n) = _
      rw [gr, if_neg h]
      rfl
theorem tp_more {n : Int} {k : Nat} (h : n < fb k) : ∀ j, tp n (k + j) = tp n k
  | 0 => rfl
  | j + 1 => by
    have := fb_le (show k ≤ k + j by omega)
    show (if fb (k + j) ≤ n then k + j + 1 else tp n (k + j)) = _
    rw [if_neg (by omega)]
    exact tp_more h j
theorem tp_eq {n : Int} {k m : Nat} (h : n < fb k) (hm : k ≤ m) : tp n m = tp n k := by
  have := tp_more h (m - k)
  rw [show k + (m - k) = m by omega] at this
  exact this
theorem tp_filter (n : Int) : ∀ k, (List.range k).filter (fun i => decide (fb i ≤ n)) = List.range (tp n k)
  | 0 => rfl
  | k + 1 => by
    unfold tp
    split
    · rename_i h
      rw [List.filter_eq_self.mpr]
      intro i hi
      rw [List.mem_range] at hi
      have := fb_le (show i ≤ k by omega)
      exact decide_eq_true (by omega)
    · rename_i h
      rw [List.range_succ, List.filter_append, tp_filter n k, List.filter_cons_of_neg (by simpa using h)]
      simp
/-- a number's numeral -/
def zk (n : Int) : List Nat := if n = 0 then [48] else st (gr 60 n)
theorem st_bits {x : List Nat} (h : Bits x) : Bits (st x) := fun c hc => h c ((List.dropWhile_sublist _).subset hc)
theorem st_nil : ∀ {x : List Nat}, Bits x → 49 ∉ x → st x = []
  | [], _, _ => rfl
  | a :: r, hb, h => by
    rcases hb a List.mem_cons_self with rfl | rfl
    · rw [st_0]
      exact st_nil (fun c hc => hb c (List.mem_cons_of_mem _ hc)) fun z => h (List.mem_cons_of_mem _ z)
    · exact absurd List.mem_cons_self h
theorem st_has : ∀ {x : List Nat}, Bits x → 49 ∈ x → st x ≠ []
  | [], _, h => by cases h
  | a :: r, hb, h => by
    rcases hb a List.mem_cons_self with rfl | rfl
    · rw [st_0]
      rcases List.mem_cons.mp h with e | h
      · cases e
      · exact st_has (fun c hc => hb c (List.mem_cons_of_mem _ hc)) h
    · rw [st_1]
      exact List.cons_ne_nil _ _
theorem wv_none : ∀ {x : List Nat}, 49 ∉ x → wv x = 0
  | [], _ => rfl
  | a :: r, h => by
    show (if a = 49 then fb r.length else 0) + wv r = 0
    rw [if_neg fun z => h (by rw [z]; exact List.mem_cons_self), wv_none fun z => h (List.mem_cons_of_mem _ z)]
    rfl
theorem wv_some : ∀ {x : List Nat}, 49 ∈ x → 0 < wv x
  | [], h => by cases h
  | a :: r, h => by
    have h0 := wv_nonneg r
    have h1 := fb_pos r.length
    show 0 < (if a = 49 then fb r.length else 0) + wv r
    by_cases e : a = 49
    · rw [if_pos e]; omega
    · rw [if_neg e]
      rcases List.mem_cons.mp h with z | z
      · exact absurd z.symm e
      · have := wv_some z
        omega
theorem wv_st : ∀ x : List Nat, Bits x → wv (st x) = wv x
  | [], _ => rfl
  | a :: r, hb => by
    rcases hb a List.mem_cons_self with rfl | rfl
    · rw [st_0, wv_st r fun c hc => hb c (List.mem_cons_of_mem _ hc)]
      show _ = (if 48 = 49 then _ else 0) + wv r
      rw [if_neg (by decide), Int.zero_add]
    · rfl
theorem no11_st : ∀ x : List Nat, Bits x → No11 x → No11 (st x)
  | [], _, h => h
  | a :: r, hb, h => by
    rcases hb a List.mem_cons_self with rfl | rfl
    · rw [st_0]
      exact no11_st r (fun c hc => hb c (List.mem_cons_of_mem _ hc)) h.tail
    · exact h
theorem bits_app {a b : List Nat} (ha : Bits a) (hb : Bits b) : Bits (a ++ b) := fun c h => by
  rcases List.mem_append.mp h with h | h
  · exact ha c h
  · exact hb c h
/-- 011 becomes 100 -/
theorem wv_head : ∀ (a x y : List Nat), x.length = y.length → wv x = wv y → wv (a ++ x) = wv (a ++ y)
  | [], _, _, _, h => h
  | c :: a, x, y, hl, h => by
    show (if c = 49 then fb (a ++ x).length else 0) + wv (a ++ x) = (if c = 49 then fb (a ++ y).length else 0) + wv (a ++ y)
    rw [wv_head a x y hl h, List.length_append, List.length_append, hl]
theorem wv_swap (a b : List Nat) : wv (a ++ (49 :: 48 :: 48 :: b)) = wv (a ++ (48 :: 49 :: 49 :: b)) := by
  refine wv_head a _ _ rfl ?_
  show fb (b.length + 2) + (0 + (0 + wv b)) = 0 + (fb (b.length + 1) + (fb b.length + wv b))
  have : fb (b.length + 2) = fb (b.length + 1) + fb b.length := rfl
  omega
theorem wv_lt : ∀ x : List Nat, wv x ≤ fb (x.length + 1) - 2
  | [] => by decide
  | c :: r => by
    have ih := wv_lt r
    have h4 : fb (r.length + 2) = fb (r.length + 1) + fb r.length := rfl
    have := fb_pos r.length
    show (if c = 49 then fb r.length else 0) + wv r ≤ fb (r.length + 2) - 2
    split <;> omega
theorem infix_split (p : List Nat) : ∀ (y : List Nat) (k : Nat), infixAt p y = some k → ∃ a b, y = a ++ (p ++ b) ∧ a.length = k
  | [], k, h => by
    unfold infixAt at h
    split at h
    · rename_i e
      cases h
      rw [List.isEmpty_iff] at e
      subst e
      exact ⟨[], [], rfl, rfl⟩
    · cases h
  | c :: r, k, h => by
    unfold infixAt at h
    split at h
    · rename_i e
      cases h
      obtain ⟨b, hb⟩ := List.isPrefixOf_iff_prefix.mp e
      exact ⟨[], b, hb.symm, rfl⟩
    · cases q : infixAt p r with
      | none => rw [q] at h; cases h
      | some j =>
        rw [q] at h
        cases h
        obtain ⟨a, b, e1, e2⟩ := infix_split p r j q
        exact ⟨c :: a, b, by rw [e1]; rfl, by rw [List.length_cons, e2]⟩
theorem no11_of : ∀ f : List Nat, infixAt [48, 49, 49] f = none → Bits f → (∀ r, f ≠ 49 :: 49 :: r) → No11 f
  | [], _, _, _ => trivial
  | a :: r, h, hb, hs => by
    unfold infixAt at h
    split at h
    · cases h
    · rename_i hp
      have hr : infixAt [48, 49, 49] r = none := by
        cases q : infixAt [48, 49, 49] r with
        | none => rfl
        | some j => rw [q] at h; cases h
      have br : Bits r := fun c hc => hb c (List.mem_cons_of_mem _ hc)
      rcases hb a List.mem_cons_self with rfl | rfl
      · have ih := no11_of r hr br fun s e => hp (by rw [e]; simp)
        cases r with
        | nil => trivial
        | cons b r => exact ⟨fun z => absurd z.1 (by decide), ih⟩
      · have ih := no11_of r hr br fun s e => by
          subst e
          exact hs (49 :: s) rfl
        cases r with
        | nil => trivial
        | cons b r => exact ⟨fun z => hs r (by rw [z.2]), ih⟩
theorem no11_in : ∀ f : List Nat, No11 f → infixAt [49, 49] f = none
  | [], _ => rfl
  | [a], _ => by
    unfold infixAt
    simp [infixAt]
  | a :: b :: r, h => by
    have ih := no11_in (b :: r) h.2
    unfold infixAt
    rw [ih, if_neg]
    · rfl
    · intro z
      simp at z
      exact h.1 ⟨z.1.symm, z.2.symm⟩
theorem no11_in3 : ∀ f : List Nat, No11 f → infixAt [48, 49, 49] f = none
  | [], _ => rfl
  | a :: r, h => by
    have ih := no11_in3 r h.tail
    unfold infixAt
    rw [ih, if_neg]
    · rfl
    · intro z
      cases r with
      | nil => simp at z
      | cons b r =>
        cases r with
        | nil => simp at z
        | cons d r =>
          simp at z
          exact h.tail.1 ⟨z.2.1.symm, z.2.2.symm⟩
/-- one 011 taken -/
def sp (f : List Nat) : Option (List Nat) := (infixAt [48, 49, 49] f).map fun k => f.take k ++ [49, 48, 48] ++ f.drop (k + 3)
def ones (f : List Nat) : Nat := f.count 49
theorem sp_split {f g : List Nat} (h : sp f = some g) : ∃ a b, f = a ++ (48 :: 49 :: 49 :: b) ∧ g = a ++ (49 :: 48 :: 48 :: b) ∧ infixAt [48, 49, 49] f = some a.length := by
  unfold sp at h
  cases q : infixAt [48, 49, 49] f with
  | none => rw [q] at h; cases h
  | some k =>
    rw [q] at h
    cases h
    obtain ⟨a, b, e1, e2⟩ := infix_split _ f k q
    refine ⟨a, b, e1, ?_, by rw [e2]⟩
    subst e2
    show List.take a.length f ++ [49, 48, 48] ++ List.drop (a.length + 3) f = _
    rw [e1, List.take_left, List.append_assoc]
    congr 1
    rw [← List.drop_drop, List.drop_left]
    rfl
theorem sp_bits {f g : List Nat} (h : sp f = some g) (hb : Bits f) : Bits g := by
  obtain ⟨a, b, rfl, rfl, _⟩ := sp_split h
  refine bits_app (fun c hc => hb c (List.mem_append_left _ hc)) fun c hc => ?_
  rcases List.mem_cons.mp hc with rfl | hc
  · exact .inr rfl
  · rcases List.mem_cons.mp hc with rfl | hc
    · exact .inl rfl
    · rcases List.mem_cons.mp hc with rfl | hc
      · exact .inl rfl
      · exact hb c (List.mem_append_right _ (List.mem_cons_of_mem _ (List.mem_cons_of_mem _ (List.mem_cons_of_mem _ hc))))
theorem sp_len {f g : List Nat} (h : sp f = some g) : g.length = f.length := by
  obtain ⟨a, b, rfl, rfl, _⟩ := sp_split h
  simp
theorem sp_wv {f g : List Nat} (h : sp f = some g) : wv g = wv f := by
  obtain ⟨a, b, rfl, rfl, _⟩ := sp_split h
  exact wv_swap a b
theorem sp_ones {f g : List Nat} (h : sp f = some g) : ones g + 1 = ones f := by
  obtain ⟨a, b, rfl, rfl, _⟩ := sp_split h
  unfold ones
  rw [List.count_append, List.count_append]
  simp
  omega
/-- until none is there -/
def red : Nat → List Nat → Nat × List Nat
  | 0, f => (0, f)
  | m + 1, f => match sp f with
    | none => (0, f)
    | some g => ((red m g).1 + 1, (red m g).2)
theorem red_ok : ∀ (m : Nat) (f : List Nat), Bits f → ones f ≤ m → Bits (red m f).2 ∧ (red m f).2.length = f.length ∧ wv (red m f).2 = wv f ∧ sp (red m f).2 = none ∧ (red m f).1 + ones (red m f).2 = ones f
  | 0, f, hb, h => by
    refine ⟨hb, rfl, rfl, ?_, Nat.zero_add _⟩
    cases q : sp f with
    | none => exact q
    | some g =>
      have := sp_ones q
      omega
  | m + 1, f, hb, h => by
    unfold red
    cases q : sp f with
    | none => exact ⟨hb, rfl, rfl, q, Nat.zero_add _⟩
    | some g =>
      have h1 := sp_ones q
      obtain ⟨i1, i2, i3, i4, i5⟩ := red_ok m g (sp_bits q hb) (by omega)
      refine ⟨i1, i2.trans (sp_len q), i3.trans (sp_wv q), i4, ?_⟩
      show (red m g).1 + 1 + ones (red m g).2 = ones f
      omega
theorem sp_nox {f : List Nat} (h : sp f = none) : infixAt [48, 49, 49] f = none := by
  unfold sp at h
  cases q : infixAt [48, 49, 49] f with
  | none => rfl
  | some k => rw [q] at h; cases h
/-- figures put right are the numeral of what they come to -/
theorem red_gr {m : Nat} {x : List Nat} (hb : Bits x) (hm : ones (48 :: x) ≤ m) : (red m (48 :: x)).2 = gr (x.length + 1) (wv x) := by
  obtain ⟨i1, i2, i3, i4, _⟩ := red_ok m (48 :: x) (fun c hc => by
    rcases List.mem_cons.mp hc with rfl | hc
    · exact .inl rfl
    · exact hb c hc) hm
  have hw : wv (48 :: x) = wv x := by
    show (if 48 = 49 then _ else 0) + wv x = _
    rw [if_neg (by decide), Int.zero_add]
  have n11 := no11_of _ (sp_nox i4) i1 fun r e => by
    rw [e] at i2 i3
    rw [hw] at i3
    have i2 : r.length + 1 + 1 = x.length + 1 := i2
    have h1 := wv_lt x
    have h2 : wv (49 :: 49 :: r) = fb (r.length + 1) + (fb r.length + wv r) := rfl
    have h3 := wv_nonneg r
    have h4 : fb (r.length + 2) = fb (r.length + 1) + fb r.length := rfl
    rw [show x.length + 1 = r.length + 2 by omega] at h1
    omega
  have := gr_of _ i1 n11
  rw [i2, i3, hw] at this
  exact this.symm
theorem wv_fb (x : List Nat) : wv x < fb (x.length + 1) := by
  have := wv_lt x
  omega
theorem zk_of {n : Int} {k : Nat} (h : n < fb k) (hk : k ≤ 60) : st (gr k n) = st (gr 60 n) := by
  rw [st_gr, st_gr, tp_eq h hk]
theorem fb60 : fb 60 = 4052739537881 := by decide +kernel
theorem fb59 : fb 59 = 2504730781961 := by decide +kernel
theorem fb58 : fb 58 = 1548008755920 := by decide +kernel
theorem gr_zero : ∀ k, 49 ∉ gr k 0
  | 0 => fun h => by cases h
  | k + 1 => by
    have := fb_pos k
    unfold gr
    rw [if_neg (by omega)]
    intro h
    rcases List.mem_cons.mp h with e | h
    · cases e
    · exact gr_zero k h
/-- the numeral: as long as 58 signs, right -/
theorem zk_facts {n : Int} (h0 : 0 ≤ n) (h1 : n ≤ 1000000000001) : Bits (zk n) ∧ 1 ≤ (zk n).length ∧ (zk n).length ≤ 58 ∧ wv (zk n) = n ∧ No11 (zk n) := by
  unfold zk
  by_cases e : n = 0
  · rw [if_pos e]
    subst e
    exact ⟨fun c hc => .inl (List.mem_singleton.mp hc), by decide, by decide, rfl, trivial⟩
  · rw [if_neg e]
    have l58 : n < fb 58 := by rw [fb58]; omega
    rw [← zk_of l58 (by decide)]
    have w := gr_wv 58 n h0 l58
    refine ⟨st_bits (gr_bits _ _), ?_, ?_, (wv_st _ (gr_bits _ _)).trans w, no11_st _ (gr_bits _ _) (gr_no11 _ _ h0 l58)⟩
    · apply Nat.pos_of_ne_zero
      intro z
      have z := List.length_eq_zero_iff.mp z
      have : wv (st (gr 58 n)) = n := (wv_st _ (gr_bits _ _)).trans w
      rw [z] at this
      exact e this.symm
    · rw [st_gr, gr_len]
      exact tp_le _ _
end NB
end

section
set_option Elab.async false
set_option linter.all false
/-! NBSlSD: xs[a:c] = ys, xs in a slot that holds it alone. -/
namespace NB
def spliceD (i : Nat) (xs ys : List D) (ρ : Env) (a : Int) : D → Out
  | .int c => if 0 ≤ a ∧ a ≤ c ∧ c ≤ xs.length ∧ xs.length + ys.length < line then .nx (ρ.set i (some (.own (.lst (xs.take a.toNat ++ ys ++ xs.drop c.toNat))))) else .stuck
  | _ => .stuck
def sPutSl (i : Nat) (lo hi e : DE) : DS := fun ρ => ofR ρ (e ρ) fun y => match y with
  | .lst ys => match ρ[i]? with
    | some (some (.own (.lst xs))) => ofR ρ (lo ρ) fun n => match n with
      | .int a => ofR ρ (hi ρ) (spliceD i xs ys ρ a)
      | _ => .stuck
    | _ => .stuck
  | _ => .stuck
end NB
end

section
set_option Elab.async false
set_option linter.all false
/-! NBTxt3D: a text within a text, lstrip, list(text), xs + ys as a new list, a comprehension over a list that stays its slot's own. -/
namespace NB
def dInX : D → D → Res D
  | .str (a :: x), .str y => .ok (.bl (infixAt (a :: x) y).isSome)
  | _, _ => .stuck
def dLstrip : D → D → Res D
  | .str y, .str z => if y.length < line then .ok (.str (y.dropWhile fun c => z.contains c)) else .stuck
  | _, _ => .stuck
def fListS : List D → Res D
  | [.str y] => if y.length < line then .ok (.lst (y.map fun c => .str [c])) else .stuck
  | _ => .stuck
def dCatL : D → D → Res D
  | .lst xs, .lst ys => if xs.length + ys.length < line then .ok (.lst (xs ++ ys)) else .stuck
  | _, _ => .stuck
/-- a new list of plain things, made while the slot j's own list is looked at -/
def thawD : Res D → Res D
  | .ok (.lst ds) => if ds.all flatD then .ok (.lst ds) else .stuck
  | .exc k => .exc k
  | _ => .stuck
def eThaw (j : Nat) (f : DE) : DE := fun ρ => match ρ[j]? with
  | some (some (.own d)) => thawD (f (ρ.set j (some (.sh d))))
  | _ => .stuck
end NB
end

section
set_option linter.all false
set_option autoImplicit false
set_option maxRecDepth 100000
namespace NB
open Res
def numbers_is_count_F : DS :=
    (sRet (eAnd (e1 isInt (eVar 0)) (eAnd (e1 dNotB (e1 isBool (eVar 0))) (eChain dLe dLe (eVar 1) (eVar 0) (eVar 2)))))
def numbers_is_count : List D → Res D := runF 3 numbers_is_count_F
def numbers_need_number_F : DS :=
    (sIf (tNot (tT (eN numbers_is_count [(eVar 0), (eVar 1), (eVar 2)])))
    (sRaise 1)
    sNil)
def numbers_need_number : List D → Res D := runF 3 numbers_need_number_F
def growing_row_to_F : DS :=
    (sSeq (sSetO 1 (eN dLst [(eC (.int 1)), (eC (.int 2))]))
    (sSeq (sWhile (tB (e2 dLe (e2 dAdd (e2 dIx (eOwn 1) (e1 dNeg (eC (.int 1)))) (e2 dIx (eOwn 1) (e1 dNeg (eC (.int 2))))) (eVar 0)))
    (sAppend 1 (e2 dAdd (e2 dIx (eOwn 1) (e1 dNeg (eC (.int 1)))) (e2 dIx (eOwn 1) (e1 dNeg (eC (.int 2)))))))
    (sSeq (sFreeze 1) (sRet (eLc (iSeq (eVar 1)) [2] (gSet 2) (tB (e2 dLe (eVar 2) (eVar 0))) (eVar 2))))))
def growing_row_to : List D → Res D := runF 3 growing_row_to_F
def growing_numeral_of_F : DS :=
    (sSeq (sIf (tB (e2 dEq (eVar 0) (eC (.int 0))))
    (sRet (eC (.str [48])))
    sNil)
    (sSeq (sSet 1 (eC (.str [])))
    (sSeq (sFor (iSeq (e1 dRev (eN growing_row_to [(eVar 0)]))) (gSet 2)
    (sSeq (sSet 1 (e2 dAdd (eVar 1) (eIf (tB (e2 dLe (eVar 2) (eVar 0))) (eC (.str [49])) (eC (.str [48])))))
    (sSet 0 (eIf (tB (e2 dLe (eVar 2) (eVar 0))) (e2 dSub (eVar 0) (eVar 2)) (eVar 0)))))
    (sRet (eVar 1)))))
def growing_numeral_of : List D → Res D := runF 3 growing_numeral_of_F
def growing_write_F : DS :=
    (sSeq (sExpr (eN numbers_need_number [(eVar 0), (eC (.int 0)), (eC (.int 1000000000000))]))
    (sRet (eN growing_numeral_of [(eVar 0)])))
def growing_write : List D → Res D := runF 1 growing_write_F
def growing_worth_of_F : DS :=
    (sSeq (sAsg (gTup [(gSet 1), (gSet 2), (gSet 3)]) (eN dTup [(eC (.int 0)), (eC (.int 1)), (eC (.int 2))]))
    (sSeq (sFor (iSeq (e1 dRev (eVar 0))) (gSet 4)
    (sSeq (sSet 1 (e2 dAdd (eVar 1) (eIf (tB (e2 dEq (eVar 4) (eC (.str [49])))) (eVar 2) (eC (.int 0)))))
    (sPar [(2, false, (eVar 3)), (3, false, (e2 dAdd (eVar 2) (eVar 3)))])))
    (sRet (eVar 1))))
def growing_worth_of : List D → Res D := runF 5 growing_worth_of_F
def growing_need_figures_F : DS :=
    (sSeq (sSet 1 (eAnd (e1 isStr (eVar 0)) (eAnd (eChain dLe dLe (eC (.int 1)) (eN fLen [(eVar 0)]) (eC (.int 60))) (eN fAll [(eLc (iSeq (eVar 0)) [2] (gSet 2) tYes (e2 dIn (eVar 2) (eC (.str [48, 49]))))]))))
    (sIf (tOr (tNot (tT (eVar 1))) (tB (e2 dGt (eN growing_worth_of [(eVar 0)]) (eC (.int 1000000000000)))))
    (sRaise 3)
    sNil))
def growing_need_figures : List D → Res D := runF 3 growing_need_figures_F
def growing_worth_F : DS :=
    (sSeq (sExpr (eN growing_need_figures [(eVar 0)]))
    (sRet (eN growing_worth_of [(eVar 0)])))
def growing_worth : List D → Res D := runF 1 growing_worth_F
def growing_read_F : DS :=
    (sSeq (sExpr (eN growing_need_figures [(eVar 0)]))
    (sSeq (sIf (tB (e2 dNe (eN growing_numeral_of [(eN growing_worth_of [(eVar 0)])]) (eVar 0)))
    (sRaise 3)
    sNil)
    (sRet (eN growing_worth_of [(eVar 0)]))))
def growing_read : List D → Res D := runF 1 growing_read_F
def growing_shaped_F : DS :=
    (sSeq (sExpr (eN growing_need_figures [(eVar 0)]))
    (sSeq (sSet 1 (e2 dAdd (eC (.str [48])) (eVar 0)))
    (sSeq (sWhile (tB (e2 dInX (eC (.str [48, 49, 49])) (eVar 1)))
    (sSeq (sSet 2 (eM1 isTL dIndex (eVar 1) (eC (.str [48, 49, 49]))))
    (sSet 1 (e2 dAdd (e2 dAdd (eCut (eVar 1) none (some (eVar 2))) (eC (.str [49, 48, 48]))) (eCut (eVar 1) (some (e2 dAdd (eVar 2) (eC (.int 3)))) none)))))
    (sSeq (sSet 1 (eM1 isTx dLstrip (eVar 1) (eC (.str [48]))))
    (sRet (eIf (tB (e2 dNe (eVar 1) (eC (.str [])))) (eVar 1) (eC (.str [48]))))))))
def growing_shaped : List D → Res D := runF 3 growing_shaped_F
def growing_steps_of_F : DS :=
    (sSeq (sExpr (eN growing_need_figures [(eVar 0)]))
    (sSeq (sPar [(1, false, (e2 dAdd (eC (.str [48])) (eVar 0))), (2, false, (eC (.int 0)))])
    (sSeq (sWhile (tB (e2 dInX (eC (.str [48, 49, 49])) (eVar 1)))
    (sSeq (sSet 3 (eM1 isTL dIndex (eVar 1) (eC (.str [48, 49, 49]))))
    (sSeq (sSet 1 (e2 dAdd (e2 dAdd (eCut (eVar 1) none (some (eVar 3))) (eC (.str [49, 48, 48]))) (eCut (eVar 1) (some (e2 dAdd (eVar 3) (eC (.int 3)))) none)))
    (sSet 2 (e2 dAdd (eVar 2) (eC (.int 1)))))))
    (sRet (eVar 2)))))
def growing_steps_of : List D → Res D := runF 4 growing_steps_of_F
def growing_behind_F : DS :=
    (sSeq (sSet 1 (eN growing_read [(eVar 0)]))
    (sSeq (sExpr (eN numbers_need_number [(e2 dAdd (eVar 1) (eC (.int 1))), (eC (.int 0)), (eC (.int 1000000000000))]))
    (sRet (eN growing_numeral_of [(e2 dAdd (eVar 1) (eC (.int 1)))]))))
def growing_behind : List D → Res D := runF 2 growing_behind_F
def law_number_F : DS :=
    (sSeq (sSet 1 (eC (.int 1000000000000)))
    (sSeq (sSet 2 (eN dLst [(e2 dMod (e2 dDiv (eVar 0) (eC (.int 8))) (eC (.int 30))), (e2 dMod (e2 dDiv (eVar 0) (eC (.int 8))) (eC (.int 1000))), (e2 dMod (e2 dDiv (eVar 0) (eC (.int 8))) (e2 dAdd (eVar 1) (eC (.int 1)))), (e2 dSub (eVar 1) (e2 dMod (e2 dDiv (eVar 0) (eC (.int 8))) (eC (.int 3)))), (e2 dAdd (eC (.int 1)) (e2 dMod (e2 dDiv (eVar 0) (eC (.int 8))) (eC (.int 300))))]))
    (sRet (e2 dIx (eVar 2) (e2 dMod (eVar 0) (eC (.int 5)))))))
def law_number : List D → Res D := runF 3 law_number_F
def law_row_F : DS :=
    (sSeq (sSetO 1 (eN dLst [(eC (.int 1)), (eC (.int 2))]))
    (sSeq (sWhile (tB (e2 dLt (eN fLen [(eOwn 1)]) (eVar 0)))
    (sAppend 1 (e2 dAdd (e2 dIx (eOwn 1) (e1 dNeg (eC (.int 1)))) (e2 dIx (eOwn 1) (e1 dNeg (eC (.int 2)))))))
    (sSeq (sFreeze 1) (sRet (eVar 1)))))
def law_row : List D → Res D := runF 2 law_row_F
def law_worth_F : DS :=
    (sRet (eN fSum [(eLc (iZip (eN law_row [(eC (.int 60))]) (e1 dRev (eVar 0))) [1, 2] (gTup [(gSet 1), (gSet 2)]) (tB (e2 dEq (eVar 2) (eC (.str [49])))) (eVar 1))]))
def law_worth : List D → Res D := runF 3 law_worth_F
def law_numeral_F : DS :=
    (sSeq (sSet 1 (eC (.str [])))
    (sSeq (sFor (iSeq (e1 dRev (eN law_row [(eC (.int 60))]))) (gSet 2)
    (sSeq (sSet 1 (e2 dAdd (eVar 1) (eIf (tB (e2 dLe (eVar 2) (eVar 0))) (eC (.str [49])) (eC (.str [48])))))
    (sSet 0 (e2 dSub (eVar 0) (e2 dMul (eVar 2) (eN fInt [(e2 dLe (eVar 2) (eVar 0))]))))))
    (sRet (eIf (tB (e2 dIn (eC (.str [49])) (eVar 1))) (eM1 isTx dLstrip (eVar 1) (eC (.str [48]))) (eC (.str [48]))))))
def law_numeral : List D → Res D := runF 3 law_numeral_F
def law_steps_F : DS :=
    (sSeq (sPar [(1, true, (e2 dCatL (eN dLst [(eC (.str [48]))]) (eN fListS [(eVar 0)]))), (2, false, (eC (.int 0)))])
    (sWhile (tT (eC (.bl true)))
    (sSeq (sSet 3 (eThaw 1 (eLc (iRange1 (e2 dSub (eN fLen [(eOwn 1)]) (eC (.int 2)))) [4] (gSet 4) (tB (e2 dEq (eCut (eVar 1) (some (eVar 4)) (some (e2 dAdd (eVar 4) (eC (.int 3))))) (eN dLst [(eC (.str [48])), (eC (.str [49])), (eC (.str [49]))]))) (eVar 4))))
    (sSeq (sIf (tB (e2 dEq (eVar 3) (eN dLst [])))
    (sRet (eVar 2))
    sNil)
    (sSeq (sPutSl 1 (e2 dIx (eVar 3) (eC (.int 0))) (e2 dAdd (e2 dIx (eVar 3) (eC (.int 0))) (eC (.int 3))) (eN dLst [(eC (.str [49])), (eC (.str [48])), (eC (.str [48]))]))
    (sSet 2 (e2 dAdd (eVar 2) (eC (.int 1)))))))))
def law_steps : List D → Res D := runF 5 law_steps_F
def law_law_F : DS :=
    (sSeq (sFor (iRange1 (eN fMax2 [(eC (.int 1)), (eN fMin2 [(eC (.int 4)), (eN fLen [(eVar 0)])])])) (gSet 1)
    (sSeq (sSet 2 (eN law_drawn [(eN law_cell [(eVar 0), (eVar 1)]), (eVar 1)]))
    (sSeq (sFor (iRange1 (eC (.int 8))) (gSet 3)
    (sSeq (sSet 4 (eN law_drawn [(eVar 2), (e2 dAdd (eC (.int 10)) (eVar 3))]))
    (sSeq (sSet 5 (eN law_number [(eVar 4)]))
    (sSeq (sSet 6 (eN law_numeral [(eVar 5)]))
    (sSeq (sIf (tOr (tB (e2 dNe (eN growing_write [(eVar 5)]) (eVar 6))) (tOr (tB (e2 dNe (eN growing_read [(eVar 6)]) (eVar 5))) (tOr (tB (e2 dNe (eN growing_worth [(eVar 6)]) (eVar 5))) (tB (e2 dInX (eC (.str [49, 49])) (eVar 6))))))
    (sRet (eC (.bl false)))
    sNil)
    (sSeq (sIf (tAnd (tB (e2 dLt (eVar 5) (eC (.int 1000000000000)))) (tB (e2 dNe (eN growing_behind [(eVar 6)]) (eN law_numeral [(e2 dAdd (eVar 5) (eC (.int 1)))]))))
    (sRet (eC (.bl false)))
    sNil)
    (sSeq (sSet 7 (e2 dAdd (eC (.int 1)) (e2 dMod (e2 dDiv (eVar 4) (eC (.int 8))) (eC (.int 40)))))
    (sSeq (sSet 8 (eM1 isTx dJoin (eC (.str [])) (eLc (iRange1 (eVar 7)) [9] (gSet 9) tYes (e2 dIx (eC (.str [48, 49])) (e2 dMod (e2 dMod (e2 dDiv (eN law_drawn [(eVar 4), (eVar 9)]) (eC (.int 8))) (e2 dIx (eN dLst [(eC (.int 2)), (eC (.int 4))]) (e2 dMod (eVar 4) (eC (.int 2))))) (eC (.int 2)))))))
    (sSeq (sIf (tOr (tB (e2 dNe (eN growing_worth [(eVar 8)]) (eN law_worth [(eVar 8)]))) (tB (e2 dNe (eN growing_shaped [(eVar 8)]) (eN law_numeral [(eN law_worth [(eVar 8)])]))))
    (sRet (eC (.bl false)))
    sNil)
    (sIf (tOr (tB (e2 dNe (eN growing_steps_of [(eVar 8)]) (eN law_steps [(eVar 8)]))) (tOr (tB (e2 dNe (eN growing_steps_of [(eVar 6)]) (eC (.int 0)))) (tB (e2 dNe (eN growing_shaped [(eVar 6)]) (eVar 6)))))
    (sRet (eC (.bl false)))
    sNil))))))))))
    (sIf (tB (e2 dNe (eLc (iRange1 (eC (.int 120))) [5] (gSet 5) tYes (eN growing_write [(eVar 5)])) (eLc (iRange1 (eC (.int 120))) [5] (gSet 5) tYes (eN law_numeral [(eVar 5)]))))
    (sRet (eC (.bl false)))
    sNil))))
    (sRet (eC (.bl true))))
def law_law : List D → Res D := runF 10 law_law_F
end NB
end

section
set_option linter.all false
set_option autoImplicit false
set_option maxRecDepth 100000
namespace NB
open Res
theorem eIf_t {t : DT} {a b : DE} {ρ : Env} {d : D} (h : t ρ = .ok true) (h2 : a ρ = .ok d) : eIf t a b ρ = .ok d := by unfold eIf; rw [h]; exact h2
theorem eIf_f {t : DT} {a b : DE} {ρ : Env} {d : D} (h : t ρ = .ok false) (h2 : b ρ = .ok d) : eIf t a b ρ = .ok d := by unfold eIf; rw [h]; exact h2
theorem for_toR {it : DI} {g : DG} {b : DS} {ρ : Env} {ds : List D} {o : Out} (h : it ρ = .ok ds) (h2 : forD g b ds ρ = o) : sFor it g b ρ = o := by
  unfold sFor
  rw [h]
  exact h2
theorem for_ct {g : DG} {b : DS} {d : D} {ds : List D} {ρ ρ1 ρ2 : Env} {o : Out} (hg : g d ρ = .ok ρ1) (hb : b ρ1 = .ct ρ2) (h : forD g b ds ρ2 = o) : forD g b (d :: ds) ρ = o := by
  unfold forD
  rw [hg]
  show (match b ρ1 with | .nx ρ'' => forD g b ds ρ'' | .ct ρ'' => forD g b ds ρ'' | .bk ρ'' => .nx ρ'' | .rt d => .rt d | .exc k ρ'' => .exc k ρ'' | .stuck => .stuck) = _
  rw [hb]
  exact h
theorem for_invC {α : Type} {g : DG} {b : DS} (f : α → D) (I : List α → Env → Prop) : ∀ (l : List α) (ρ : Env), I l ρ → (∀ x l ρ, I (x :: l) ρ → ∃ ρ1 ρ2, g (f x) ρ = .ok ρ1 ∧ (b ρ1 = .nx ρ2 ∨ b ρ1 = .ct ρ2) ∧ I l ρ2) → ∃ ρ', forD g b (l.map f) ρ = .nx ρ' ∧ I [] ρ'
  | [], ρ, h, _ => ⟨ρ, rfl, h⟩
  | x :: l, ρ, h, hs => by
    obtain ⟨ρ1, ρ2, h1, h2, h3⟩ := hs x l ρ h
    obtain ⟨ρ', h4, h5⟩ := for_invC f I l ρ2 h3 hs
    rcases h2 with h2 | h2
    · exact ⟨ρ', for_cons h1 h2 h4, h5⟩
    · exact ⟨ρ', for_ct h1 h2 h4, h5⟩
theorem seq_ct {F F' : DS} {ρ ρ' : Env} (h : F ρ = .ct ρ') : sSeq F F' ρ = .ct ρ' := by unfold sSeq; rw [h]
theorem lay_dints (xs : List Int) : D.lay 20 (.lst (dints xs)) = true := layAll_ints 19 xs
end NB
end

section
set_option linter.all false
set_option autoImplicit false
set_option maxRecDepth 100000
namespace NB
open Res
/-! the module growing: what its defs answer -/
def fbs (m : Nat) : List D := (List.range m).map fun i => D.int (fb i)
theorem fbs_len (m : Nat) : (fbs m).length = m := by unfold fbs; rw [List.length_map, List.length_range]
theorem fbs_get {m i : Nat} (h : i < m) : (fbs m)[i]? = some (.int (fb i)) := by
  unfold fbs
  rw [List.getElem?_map, List.getElem?_range h]
  rfl
theorem fbs_succ (m : Nat) : fbs (m + 1) = fbs m ++ [.int (fb m)] := by
  unfold fbs
  rw [List.range_succ, List.map_append]
  rfl
theorem atD_neg {α : Type} (xs : List α) {d : Nat} (h : 1 ≤ d) (h2 : d ≤ xs.length) : atD xs (-(d : Int)) = xs[xs.length - d]? := by
  unfold atD place
  rw [if_neg (by omega), if_pos (by omega)]
  show xs[(-(d : Int) + (xs.length : Nat)).toNat]? = _
  congr 1
  omega
theorem fbs_neg {m d : Nat} (h : 1 ≤ d) (h2 : d ≤ m) : dIx (.lst (fbs m)) (.int (-(d : Int))) = .ok (.int (fb (m - d))) := by
  show orS (atD (fbs m) (-(d : Int))) = _
  rw [atD_neg _ h (by rw [fbs_len]; exact h2), fbs_len, fbs_get (by omega)]
  rfl
theorem fbs_n1 (m : Nat) : dIx (.lst (fbs (m + 2))) (.int (-1)) = .ok (.int (fb (m + 1))) := fbs_neg (m := m + 2) (d := 1) (by decide) (by omega)
theorem fbs_n2 (m : Nat) : dIx (.lst (fbs (m + 2))) (.int (-2)) = .ok (.int (fb m)) := fbs_neg (m := m + 2) (d := 2) (by decide) (by omega)
theorem need_number_ok {x lo hi : Int} (h : lo ≤ x ∧ x ≤ hi) : numbers_need_number [.int x, .int lo, .int hi] = .ok .non := by
  have ic : numbers_is_count [.int x, .int lo, .int hi] = .ok (.bl (decide (lo ≤ x) && decide (x ≤ hi))) :=
    run_rt (ρ := [sh (.int x), sh (.int lo), sh (.int hi)]) rfl (ret_ok (eAnd_ok (x := true) rfl (eAnd_ok (x := true) rfl (eChain_ok rfl rfl rfl rfl rfl))))
  exact run_nx (ρ := [sh (.int x), sh (.int lo), sh (.int hi)]) rfl (skip (tNot_ok (b := true) (tT_ok (eN_to (args_cons rfl (args_cons rfl (args_cons rfl args_nil))) (by rw [ic, decide_eq_true h.1, decide_eq_true h.2]; rfl)))))
/-- the row grows by one -/
theorem grow_ok {X : SV} {m : Nat} (tl : Env) (hm : m ≤ 1000) : sAppend 1 (e2 dAdd (e2 dIx (eOwn 1) (e1 dNeg (eC (.int 1)))) (e2 dIx (eOwn 1) (e1 dNeg (eC (.int 2))))) (some X :: some (.own (.lst (fbs (m + 2)))) :: tl) = .nx (some X :: some (.own (.lst (fbs (m + 3)))) :: tl) := by
  refine append_ok (xs := fbs (m + 2)) (d := .int (fb (m + 2))) rfl (e2_to (e2_to rfl rfl (fbs_n1 m)) (e2_to rfl rfl (fbs_n2 m)) rfl) (by rw [fbs_len]; omega) ?_
  rw [fbs_succ (m + 2)]
  rfl
theorem row60 : law_row [.int 60] = .ok (.lst (fbs 60)) := by
  have loop : ∀ (j m : Nat), m + j = 58 → ∀ W, j < W → whileD (tB (e2 dLt (eN fLen [(eOwn 1)]) (eVar 0))) (sAppend 1 (e2 dAdd (e2 dIx (eOwn 1) (e1 dNeg (eC (.int 1)))) (e2 dIx (eOwn 1) (e1 dNeg (eC (.int 2)))))) W [sh (.int 60), some (.own (.lst (fbs (m + 2))))] = .nx [sh (.int 60), some (.own (.lst (fbs 60)))] := by
    intro j
    induction j with
    | zero =>
      intro m hm W hW
      obtain ⟨W, rfl⟩ : ∃ V, W = V + 1 := ⟨W - 1, by omega⟩
      have : m = 58 := by omega
      subst this
      exact while_end (tB_ok (e2_to (eN_to (args_cons rfl args_nil) (v_lenL _)) rfl (by rw [fbs_len]; rfl)))
    | succ j ih =>
      intro m hm W hW
      obtain ⟨W, rfl⟩ : ∃ V, W = V + 1 := ⟨W - 1, by omega⟩
      refine while_step (tB_ok (e2_to (eN_to (args_cons rfl args_nil) (v_lenL _)) rfl ?_)) (grow_ok (m := m) [] (by omega)) (ih (m + 1) (by omega) W (by omega))
      rw [fbs_len, v_ltI, decide_eq_true (by omega)]
  refine run_rt (ρ := [sh (.int 60), none]) rfl (seqTo (ρ' := [sh (.int 60), some (.own (.lst (fbs 2)))]) rfl (seqTo (loop 58 0 rfl 100000 (by decide)) rfl))
theorem row_to_ok {n : Int} (h1 : 1 ≤ n) (h2 : n ≤ 1000000000001) : growing_row_to [.int n] = .ok (.lst (fbs (tp n 60))) := by
  have loop : ∀ (j m : Nat), m + j = 58 → ∀ W, j < W → ∃ l, l ≤ 60 ∧ n < fb l ∧ whileD (tB (e2 dLe (e2 dAdd (e2 dIx (eOwn 1) (e1 dNeg (eC (.int 1)))) (e2 dIx (eOwn 1) (e1 dNeg (eC (.int 2))))) (eVar 0))) (sAppend 1 (e2 dAdd (e2 dIx (eOwn 1) (e1 dNeg (eC (.int 1)))) (e2 dIx (eOwn 1) (e1 dNeg (eC (.int 2)))))) W [sh (.int n), some (.own (.lst (fbs (m + 2)))), none] = .nx [sh (.int n), some (.own (.lst (fbs l))), none] := by
    have cond : ∀ m, tB (e2 dLe (e2 dAdd (e2 dIx (eOwn 1) (e1 dNeg (eC (.int 1)))) (e2 dIx (eOwn 1) (e1 dNeg (eC (.int 2))))) (eVar 0)) [sh (.int n), some (.own (.lst (fbs (m + 2)))), none] = .ok (decide (fb (m + 2) ≤ n)) := fun m =>
      tB_ok (e2_to (x := .int (fb (m + 2))) (e2_to (e2_to rfl rfl (fbs_n1 m)) (e2_to rfl rfl (fbs_n2 m)) rfl) rfl rfl)
    intro j
    induction j with
    | zero =>
      intro m hm W hW
      obtain ⟨W, rfl⟩ : ∃ V, W = V + 1 := ⟨W - 1, by omega⟩
      have : m = 58 := by omega
      subst this
      have z := cond 58
      have f60 : fb (58 + 2) = 4052739537881 := fb60
      rw [f60, decide_eq_false (by omega)] at z
      exact ⟨60, Nat.le_refl _, by rw [fb60]; omega, while_end z⟩
    | succ j ih =>
      intro m hm W hW
      obtain ⟨W, rfl⟩ : ∃ V, W = V + 1 := ⟨W - 1, by omega⟩
      have z := cond m
      by_cases c : fb (m + 2) ≤ n
      · rw [decide_eq_true c] at z
        obtain ⟨l, l1, l2, l3⟩ := ih (m + 1) (by omega) W (by omega)
        exact ⟨l, l1, l2, while_step z (grow_ok (m := m) [none] (by omega)) l3⟩
      · rw [decide_eq_false c] at z
        exact ⟨m + 2, by omega, by omega, while_end z⟩
  obtain ⟨l, l1, l2, l3⟩ := loop 58 0 rfl 100000 (by decide)
  have lc := eLc_onF (ρ := [sh (.int n), sh (.lst (fbs l)), none]) (it := iSeq (eVar 1)) (vs := [2]) (g := gSet 2) (c := tB (e2 dLe (eVar 2) (eVar 0))) (e := eVar 2) (List.range l) (fun i => D.int (fb i)) (fun i => D.int (fb i)) (fun i => decide (fb i ≤ n)) rfl (fun i _ => ⟨_, rfl, rfl, fun _ => rfl⟩) (by rw [List.length_range]; omega)
  rw [tp_filter, ← tp_eq l2 l1] at lc
  exact run_rt (ρ := [sh (.int n), none, none]) rfl (seqTo (ρ' := [sh (.int n), some (.own (.lst (fbs 2))), none]) rfl (seqTo l3 (seqTo (ρ' := [sh (.int n), sh (.lst (fbs l)), none]) rfl (ret_ok lc))))
theorem cat1 {ρ : Env} {a b : DE} {x : List Nat} {c : Nat} (h : a ρ = .ok (.str x)) (h2 : b ρ = .ok (.str [c])) (hl : x.length ≤ 1000) : e2 dAdd a b ρ = .ok (.str (x ++ [c])) := e2_to h h2 (v_addS _ _ (by show x.length + 1 ≤ _; omega))
theorem fbs_rev (k : Nat) : (fbs (k + 1)).reverse = .int (fb k) :: (fbs k).reverse := by rw [fbs_succ, List.reverse_append]; rfl
theorem greed_ok : ∀ (k : Nat) (n : Int) (acc : List Nat) (x : Option SV), acc.length + k ≤ 1000 →
    ∃ n' x', forD (gSet 2) (sSeq (sSet 1 (e2 dAdd (eVar 1) (eIf (tB (e2 dLe (eVar 2) (eVar 0))) (eC (.str [49])) (eC (.str [48]))))) (sSet 0 (eIf (tB (e2 dLe (eVar 2) (eVar 0))) (e2 dSub (eVar 0) (eVar 2)) (eVar 0)))) (fbs k).reverse [sh (.int n), sh (.str acc), x] = .nx [sh (.int n'), sh (.str (acc ++ gr k n)), x']
  | 0, n, acc, x, _ => ⟨n, x, by rw [show gr 0 n = [] from rfl, List.append_nil]; rfl⟩
  | k + 1, n, acc, x, hl => by
    rw [fbs_rev]
    by_cases c : fb k ≤ n
    · obtain ⟨n', x', h⟩ := greed_ok k (n - fb k) (acc ++ [49]) (sh (.int (fb k))) (by rw [List.length_append]; show acc.length + 1 + k ≤ 1000; omega)
      refine ⟨n', x', for_cons rfl (ρ2 := [sh (.int (n - fb k)), sh (.str (acc ++ [49])), sh (.int (fb k))]) (seqTo (ρ' := [sh (.int n), sh (.str (acc ++ [49])), sh (.int (fb k))]) (set_to (cat1 rfl (eIf_t (tB_ok (e2_to rfl rfl (by rw [v_leI, decide_eq_true c]))) rfl) (by omega)) rfl rfl) (set_to (eIf_t (tB_ok (e2_to rfl rfl (by rw [v_leI, decide_eq_true c]))) (e2_to rfl rfl rfl)) rfl rfl)) ?_⟩
      rw [h]
      congr 3
      show sh (.str (acc ++ [49] ++ gr k (n - fb k))) = sh (.str (acc ++ gr (k + 1) n))
      rw [List.append_assoc, gr, if_pos c]
      rfl
    · obtain ⟨n', x', h⟩ := greed_ok k n (acc ++ [48]) (sh (.int (fb k))) (by rw [List.length_append]; show acc.length + 1 + k ≤ 1000; omega)
      refine ⟨n', x', for_cons rfl (ρ2 := [sh (.int n), sh (.str (acc ++ [48])), sh (.int (fb k))]) (seqTo (ρ' := [sh (.int n), sh (.str (acc ++ [48])), sh (.int (fb k))]) (set_to (cat1 rfl (eIf_f (tB_ok (e2_to rfl rfl (by rw [v_leI, decide_eq_false c]))) rfl) (by omega)) rfl rfl) (set_to (eIf_f (tB_ok (e2_to rfl rfl (by rw [v_leI, decide_eq_false c]))) rfl) rfl rfl)) ?_⟩
      rw [h]
      congr 3
      show sh (.str (acc ++ [48] ++ gr k n)) = sh (.str (acc ++ gr (k + 1) n))
      rw [List.append_assoc, gr, if_neg c]
      rfl
theorem numeral_ok {n : Int} (h0 : 0 ≤ n) (h1 : n ≤ 1000000000001) : growing_numeral_of [.int n] = .ok (.str (zk n)) := by
  by_cases e : n = 0
  · subst e
    exact run_rt (ρ := [sh (.int 0), none, none]) rfl (seq_rt rfl)
  · obtain ⟨n', x', h⟩ := greed_ok (tp n 60) n [] none (by have := tp_le n 60; show 0 + _ ≤ _; omega)
    rw [List.nil_append, ← st_gr] at h
    have z : zk n = st (gr 60 n) := if_neg e
    rw [z]
    have sI : sIf (tB (e2 dEq (eVar 0) (eC (.int 0)))) (sRet (eC (.str [48]))) sNil [sh (.int n), none, none] = .nx [sh (.int n), none, none] := ifF (tB_ok (e2_to rfl rfl (by rw [v_eqI, decide_eq_false e]))) rfl
    exact run_rt (ρ := [sh (.int n), none, none]) rfl (seqTo sI (seqTo (ρ' := [sh (.int n), sh (.str []), none]) rfl (seqTo (for_toR (ds := (fbs (tp n 60)).reverse) (by
      have r : e1 dRev (eN growing_row_to [(eVar 0)]) [sh (.int n), sh (.str []), none] = .ok (.lst (fbs (tp n 60)).reverse) := e1_to (eN_to (args_cons rfl args_nil) (row_to_ok (by omega) h1)) rfl
      unfold iSeq
      rw [r]
      rfl) h) (ret_ok rfl))))
theorem greed2_ok : ∀ (k : Nat) (n : Int) (acc : List Nat) (x : Option SV), acc.length + k ≤ 1000 →
    ∃ n' x', forD (gSet 2) (sSeq (sSet 1 (e2 dAdd (eVar 1) (eIf (tB (e2 dLe (eVar 2) (eVar 0))) (eC (.str [49])) (eC (.str [48]))))) (sSet 0 (e2 dSub (eVar 0) (e2 dMul (eVar 2) (eN fInt [(e2 dLe (eVar 2) (eVar 0))]))))) (fbs k).reverse [sh (.int n), sh (.str acc), x] = .nx [sh (.int n'), sh (.str (acc ++ gr k n)), x']
  | 0, n, acc, x, _ => ⟨n, x, by rw [show gr 0 n = [] from rfl, List.append_nil]; rfl⟩
  | k + 1, n, acc, x, hl => by
    rw [fbs_rev]
    by_cases c : fb k ≤ n
    · obtain ⟨n', x', h⟩ := greed2_ok k (n - fb k) (acc ++ [49]) (sh (.int (fb k))) (by rw [List.length_append]; show acc.length + 1 + k ≤ 1000; omega)
      refine ⟨n', x', for_cons rfl (ρ2 := [sh (.int (n - fb k)), sh (.str (acc ++ [49])), sh (.int (fb k))]) (seqTo (ρ' := [sh (.int n), sh (.str (acc ++ [49])), sh (.int (fb k))]) (set_to (cat1 rfl (eIf_t (tB_ok (e2_to rfl rfl (by rw [v_leI, decide_eq_true c]))) rfl) (by omega)) rfl rfl) (set_to (e2_to (y := .int (fb k)) rfl (e2_to (y := .int 1) rfl (eN_to (ds := [.bl true]) (args_cons (e2_to rfl rfl (by rw [v_leI, decide_eq_true c])) args_nil) rfl) ((dMul_int (mulOk_small (by decide))).trans (by rw [Int.mul_one]))) rfl) rfl rfl)) ?_⟩
      rw [h]
      congr 3
      show sh (.str (acc ++ [49] ++ gr k (n - fb k))) = sh (.str (acc ++ gr (k + 1) n))
      rw [List.append_assoc, gr, if_pos c]
      rfl
    · obtain ⟨n', x', h⟩ := greed2_ok k n (acc ++ [48]) (sh (.int (fb k))) (by rw [List.length_append]; show acc.length + 1 + k ≤ 1000; omega)
      refine ⟨n', x', for_cons rfl (ρ2 := [sh (.int n), sh (.str (acc ++ [48])), sh (.int (fb k))]) (seqTo (ρ' := [sh (.int n), sh (.str (acc ++ [48])), sh (.int (fb k))]) (set_to (cat1 rfl (eIf_f (tB_ok (e2_to rfl rfl (by rw [v_leI, decide_eq_false c]))) rfl) (by omega)) rfl rfl) (set_to (e2_to (y := .int 0) rfl (e2_to (y := .int 0) rfl (eN_to (ds := [.bl false]) (args_cons (e2_to rfl rfl (by rw [v_leI, decide_eq_false c])) args_nil) rfl) ((dMul_int (mulOk_small (by decide))).trans (by rw [Int.mul_zero]))) (by rw [v_subI, Int.sub_zero])) rfl rfl)) ?_⟩
      rw [h]
      congr 3
      show sh (.str (acc ++ [48] ++ gr k n)) = sh (.str (acc ++ gr (k + 1) n))
      rw [List.append_assoc, gr, if_neg c]
      rfl
theorem strip_ok {x : List Nat} (h : x.length ≤ 1000) : dLstrip (.str x) (.str [48]) = .ok (.str (st x)) := if_pos (show x.length < 16777216 by omega)
theorem lnum_ok {n : Int} (h0 : 0 ≤ n) (h1 : n ≤ 1000000000001) : law_numeral [.int n] = .ok (.str (zk n)) := by
  obtain ⟨n', x', h⟩ := greed2_ok 60 n [] none (by decide)
  rw [List.nil_append] at h
  have w := gr_wv 60 n h0 (by rw [fb60]; omega)
  have fin : eIf (tB (e2 dIn (eC (.str [49])) (eVar 1))) (eM1 isTx dLstrip (eVar 1) (eC (.str [48]))) (eC (.str [48])) [sh (.int n'), sh (.str (gr 60 n)), x'] = .ok (.str (zk n)) := by
    by_cases e : n = 0
    · have : 49 ∉ gr 60 n := by rw [e]; exact gr_zero 60
      rw [show zk n = [48] from if_pos e]
      exact eIf_f (tB_ok (e2_to rfl rfl (by rw [v_inS, decide_eq_false this]))) rfl
    · have : 49 ∈ gr 60 n := by
        rcases Classical.em (49 ∈ gr 60 n) with z | z
        · exact z
        · rw [wv_none z] at w
          exact absurd w.symm e
      rw [show zk n = st (gr 60 n) from if_neg e]
      exact eIf_t (tB_ok (e2_to rfl rfl (by rw [v_inS, decide_eq_true this]))) (eM1_to rfl rfl rfl (strip_ok (by rw [gr_len]; decide)))
  exact run_rt (ρ := [sh (.int n), none, none]) rfl (seqTo (ρ' := [sh (.int n), sh (.str []), none]) rfl (seqTo (for_toR (ds := (fbs 60).reverse) (by
      have r : e1 dRev (eN law_row [(eC (.int 60))]) [sh (.int n), sh (.str []), none] = .ok (.lst (fbs 60).reverse) := e1_to (eN_to (args_cons rfl args_nil) row60) rfl
      unfold iSeq
      rw [r]
      rfl) h) (ret_ok fin)))
/-- signs from the last on -/
def wr (i : Nat) : List Nat → Int
  | [] => 0
  | c :: r => (if c = 49 then fb i else 0) + wr (i + 1) r
theorem wr_snoc : ∀ (i : Nat) (x : List Nat) (c : Nat), wr i (x ++ [c]) = wr i x + (if c = 49 then fb (i + x.length) else 0)
  | i, [], c => by
    show (if c = 49 then fb i else 0) + 0 = 0 + (if c = 49 then fb i else 0)
    omega
  | i, a :: x, c => by
    show (if a = 49 then fb i else 0) + wr (i + 1) (x ++ [c]) = (if a = 49 then fb i else 0) + wr (i + 1) x + (if c = 49 then fb (i + (x.length + 1)) else 0)
    rw [wr_snoc (i + 1) x c, show i + 1 + x.length = i + (x.length + 1) by omega, Int.add_assoc]
theorem wr_wv : ∀ x : List Nat, wr 0 x.reverse = wv x
  | [] => rfl
  | c :: r => by
    rw [List.reverse_cons, wr_snoc, wr_wv r, List.length_reverse, Nat.zero_add, Int.add_comm]
    rfl
theorem worth_loop (N : Option SV) : ∀ (y : List Nat) (i : Nat) (f : Int) (x : Option SV), ∃ a b x', forD (gSet 4) (sSeq (sSet 1 (e2 dAdd (eVar 1) (eIf (tB (e2 dEq (eVar 4) (eC (.str [49])))) (eVar 2) (eC (.int 0))))) (sPar [(2, false, (eVar 3)), (3, false, (e2 dAdd (eVar 2) (eVar 3)))])) (sgns y) [N, sh (.int f), sh (.int (fb i)), sh (.int (fb (i + 1))), x] = .nx [N, sh (.int (f + wr i y)), a, b, x']
  | [], i, f, x => ⟨_, _, x, by rw [show wr i [] = 0 from rfl, Int.add_zero]; rfl⟩
  | c :: y, i, f, x => by
    have pr : ∀ g : Int, sPar [(2, false, (eVar 3)), (3, false, (e2 dAdd (eVar 2) (eVar 3)))] [N, sh (.int g), sh (.int (fb i)), sh (.int (fb (i + 1))), sh (.str [c])] = .nx [N, sh (.int g), sh (.int (fb (i + 1))), sh (.int (fb (i + 2))), sh (.str [c])] := fun g => by
      refine par2_ok (d := .int (fb (i + 1))) (d2 := .int (fb (i + 2))) rfl (e2_to rfl rfl ?_) rfl rfl rfl
      rw [v_addI, Int.add_comm]
      rfl
    by_cases e : c = 49
    · obtain ⟨a, b, x', h⟩ := worth_loop N y (i + 1) (f + fb i) (sh (.str [c]))
      refine ⟨a, b, x', for_cons rfl (seqTo (set_to (e2_to rfl (eIf_t (tB_ok (e2_to rfl rfl (by rw [v_eqS, decide_eq_true (by rw [e])]))) rfl) rfl) rfl rfl) (pr (f + fb i))) ?_⟩
      rw [h]
      show _ = Out.nx [N, sh (.int (f + ((if c = 49 then fb i else 0) + wr (i + 1) y))), a, b, x']
      rw [if_pos e, Int.add_assoc]
    · obtain ⟨a, b, x', h⟩ := worth_loop N y (i + 1) f (sh (.str [c]))
      refine ⟨a, b, x', for_cons rfl (seqTo (ρ' := [N, sh (.int f), sh (.int (fb i)), sh (.int (fb (i + 1))), sh (.str [c])]) (set_to (e2_to (y := .int 0) rfl (eIf_f (tB_ok (e2_to rfl rfl (by rw [v_eqS, decide_eq_false (by intro z; exact e (List.cons.inj z).1)]))) rfl) (by rw [v_addI, Int.add_zero])) rfl rfl) (pr f)) ?_⟩
      rw [h]
      show _ = Out.nx [N, sh (.int (f + ((if c = 49 then fb i else 0) + wr (i + 1) y))), a, b, x']
      rw [if_neg e, Int.zero_add]
theorem worth_of_ok {x : List Nat} (hl : x.length ≤ 1000) : growing_worth_of [.str x] = .ok (.int (wv x)) := by
  obtain ⟨a, b, x', h⟩ := worth_loop (sh (.str x)) x.reverse 0 0 none
  rw [wr_wv, Int.zero_add] at h
  exact run_rt (ρ := [sh (.str x), none, none, none, none]) rfl (seqTo (ρ' := [sh (.str x), sh (.int 0), sh (.int 1), sh (.int 2), none]) rfl (seqTo (for_toR (ds := sgns x.reverse) (v_iseqS _ _ _ (e1_to rfl (v_revS _ (by omega)))) h) (ret_ok rfl)))
/-- signs beside their worth -/
def prs (i : Nat) : List Nat → List (Int × Nat)
  | [] => []
  | c :: r => (fb i, c) :: prs (i + 1) r
theorem prs_len : ∀ (i : Nat) (y : List Nat), (prs i y).length = y.length
  | _, [] => rfl
  | i, c :: r => by
    show (prs (i + 1) r).length + 1 = r.length + 1
    rw [prs_len]
theorem prs_zip : ∀ (y : List Nat) (i k : Nat), y.length ≤ k → zipL ((List.range' i k).map fun j => D.int (fb j)) (sgns y) = (prs i y).map fun p => D.tup [.int p.1, .str [p.2]]
  | [], i, k, _ => by
    cases k <;> rfl
  | c :: y, i, 0, h => by simp at h
  | c :: y, i, k + 1, h => by
    rw [List.range'_succ]
    show D.tup [.int (fb i), .str [c]] :: zipL ((List.range' (i + 1) k).map fun j => D.int (fb j)) (sgns y) = _
    rw [prs_zip y (i + 1) k (by simpa using h)]
    rfl
theorem prs_sum : ∀ (y : List Nat) (i : Nat), sumI (((prs i y).filter fun p => decide (p.2 = 49)).map fun p => p.1) = wr i y
  | [], _ => rfl
  | c :: y, i => by
    show sumI ((((fb i, c) :: prs (i + 1) y).filter fun p => decide (p.2 = 49)).map fun p => p.1) = (if c = 49 then fb i else 0) + wr (i + 1) y
    by_cases e : c = 49
    · rw [List.filter_cons_of_pos (by simpa using e), if_pos e, List.map_cons]
      show fb i + sumI _ = _
      rw [prs_sum y (i + 1)]
    · rw [List.filter_cons_of_neg (by simpa using e), if_neg e, prs_sum y (i + 1), Int.zero_add]
theorem sum_dints (ns : List Int) : fSum [.lst (dints ns)] = .ok (.int (sumI ns)) := by
  show (match intsOf (dints ns) with | some ns => Res.ok (D.int (sumI ns)) | none => .stuck) = _
  rw [intsOf_ints]
theorem lworth_ok {x : List Nat} (hl : x.length ≤ 60) : law_worth [.str x] = .ok (.int (wv x)) := by
  have hz := prs_zip x.reverse 0 60 (by rw [List.length_reverse]; exact hl)
  rw [← List.range_eq_range'] at hz
  have lc := eLc_onF (ρ := [sh (.str x), none, none]) (it := iZip (eN law_row [(eC (.int 60))]) (e1 dRev (eVar 0))) (vs := [1, 2]) (g := gTup [(gSet 1), (gSet 2)]) (c := tB (e2 dEq (eVar 2) (eC (.str [49])))) (e := eVar 1) (prs 0 x.reverse) (fun p => D.tup [.int p.1, .str [p.2]]) (fun p => D.int p.1) (fun p => decide (p.2 = 49)) (by
    unfold iZip
    rw [eN_to (args_cons rfl args_nil) row60, e1_to (z := .str x.reverse) rfl (v_revS _ (by omega))]
    exact congrArg Res.ok hz) (fun p _ => ⟨_, rfl, tB_ok (e2_to rfl rfl (by rw [v_eqS, show decide ([p.2] = [49]) = decide (p.2 = 49) by by_cases z : p.2 = 49 <;> simp [z]])), fun _ => rfl⟩) (by rw [prs_len, List.length_reverse]; omega)
  refine run_rt (ρ := [sh (.str x), none, none]) rfl (ret_ok (eN_to (args_cons lc args_nil) ?_))
  rw [← wr_wv, ← prs_sum, ← sum_dints]
  unfold dints
  rw [List.map_map]
  rfl
end NB
end

section
set_option linter.all false
set_option autoImplicit false
set_option maxRecDepth 100000
namespace NB
open Res
theorem bits_all {x : List Nat} (h : Bits x) : (x.all fun c => decide (c ∈ [48, 49])) = true := List.all_eq_true.mpr fun c hc => decide_eq_true (by
  rcases h c hc with rfl | rfl <;> simp)
theorem figures_ok {x : List Nat} (hb : Bits x) (h1 : 1 ≤ x.length) (h2 : x.length ≤ 60) (hw : wv x ≤ 1000000000000) : growing_need_figures [.str x] = .ok .non := by
  have al := all_sgn (ρ := [sh (.str x), none, none]) (it := iSeq (eVar 0)) (j := 2) (e := e2 dIn (eVar 2) (eC (.str [48, 49]))) (x := x) (y := [48, 49]) (v_iseqS _ _ _ rfl) (by omega) (fun c hc => ⟨_, rfl, e2_to rfl rfl (v_inS _ _)⟩)
  rw [bits_all hb] at al
  have ch : eChain dLe dLe (eC (.int 1)) (eN fLen [(eVar 0)]) (eC (.int 60)) [sh (.str x), none, none] = .ok (.bl (true && true)) := eChain_ok rfl (eN_to (args_cons rfl args_nil) (v_lenS _ (by omega))) rfl (by rw [v_leI, decide_eq_true (by omega)]) (by rw [v_leI, decide_eq_true (by omega)])
  exact run_nx (ρ := [sh (.str x), none, none]) rfl (seqTo (ρ' := [sh (.str x), sh (.bl true), none]) (set_to (eAnd_ok (x := true) (y := true) rfl (eAnd_ok (x := true) (y := true) ch al)) rfl rfl) (skip (tOr_ok (x := false) (y := false) (tNot_ok (b := true) (tT_ok rfl)) (tB_ok (e2_to (eN_to (args_cons rfl args_nil) (worth_of_ok (by omega))) rfl (by rw [v_gtI, decide_eq_false (by omega)]))))))
theorem gworth_ok {x : List Nat} (hb : Bits x) (h1 : 1 ≤ x.length) (h2 : x.length ≤ 60) (hw : wv x ≤ 1000000000000) : growing_worth [.str x] = .ok (.int (wv x)) :=
  run_rt (ρ := [sh (.str x)]) rfl (seqTo (expr_ok (eN_to (args_cons rfl args_nil) (figures_ok hb h1 h2 hw))) (ret_ok (eN_to (args_cons rfl args_nil) (worth_of_ok (by omega)))))
theorem gwrite_ok {n : Int} (h0 : 0 ≤ n) (h1 : n ≤ 1000000000000) : growing_write [.int n] = .ok (.str (zk n)) :=
  run_rt (ρ := [sh (.int n)]) rfl (seqTo (expr_ok (eN_to (args_cons rfl (args_cons rfl (args_cons rfl args_nil))) (need_number_ok ⟨h0, h1⟩))) (ret_ok (eN_to (args_cons rfl args_nil) (numeral_ok h0 (by omega)))))
theorem gread_ok {n : Int} (h0 : 0 ≤ n) (h1 : n ≤ 1000000000000) : growing_read [.str (zk n)] = .ok (.int n) := by
  obtain ⟨z1, z2, z3, z4, _⟩ := zk_facts h0 (by omega)
  have w := worth_of_ok (x := zk n) (by omega)
  rw [z4] at w
  refine run_rt (ρ := [sh (.str (zk n))]) rfl (seqTo (expr_ok (eN_to (args_cons rfl args_nil) (figures_ok z1 z2 (by omega) (by rw [z4]; exact h1)))) (seqTo (ifF (tB_ok (e2_to (eN_to (args_cons (eN_to (args_cons rfl args_nil) w) args_nil) (numeral_ok h0 (by omega))) rfl ?_)) rfl) (ret_ok (eN_to (args_cons rfl args_nil) w))))
  rw [v_neS, decide_eq_true rfl]
  rfl
theorem gbehind_ok {n : Int} (h0 : 0 ≤ n) (h1 : n < 1000000000000) : growing_behind [.str (zk n)] = .ok (.str (zk (n + 1))) :=
  run_rt (ρ := [sh (.str (zk n)), none]) rfl (seqTo (ρ' := [sh (.str (zk n)), sh (.int n)]) (set_to (eN_to (args_cons rfl args_nil) (gread_ok h0 (by omega))) rfl rfl) (seqTo (expr_ok (eN_to (args_cons (e2_to rfl rfl rfl) (args_cons rfl (args_cons rfl args_nil))) (need_number_ok ⟨by omega, by omega⟩))) (ret_ok (eN_to (args_cons (e2_to rfl rfl rfl) args_nil) (numeral_ok (by omega) (by omega))))))
theorem in3 (f : List Nat) : dInX (.str [48, 49, 49]) (.str f) = .ok (.bl (infixAt [48, 49, 49] f).isSome) := rfl
theorem ix3 {f : List Nat} {k : Nat} (h : infixAt [48, 49, 49] f = some k) : dIndex (.str f) (.str [48, 49, 49]) = .ok (.int (k : Nat)) := by
  show (match infixAt [48, 49, 49] f with | some k => Res.ok (D.int (k : Nat)) | none => .stuck) = _
  rw [h]
theorem part_some {a : DE} {ρ : Env} {i : Int} (h : a ρ = .ok (.int i)) : part (some a) ρ = .ok (some i) := by
  show (a ρ).bind _ = _
  rw [h]
  rfl
/-- one turn of the loop: the text of the slot 1, the place in the slot j -/
theorem cut_ok {ρ : Env} {a : DE} {f : List Nat} {k : Nat} (hf : (eVar 1) ρ = .ok (.str f)) (ha : a ρ = .ok (.int (k : Nat))) (hl : f.length ≤ 1000) :
    e2 dAdd (e2 dAdd (eCut (eVar 1) none (some a)) (eC (.str [49, 48, 48]))) (eCut (eVar 1) (some (e2 dAdd a (eC (.int 3)))) none) ρ = .ok (.str (f.take k ++ [49, 48, 48] ++ f.drop (k + 3))) := by
  have c1 : eCut (eVar 1) none (some a) ρ = .ok (.str (f.take k)) := by
    unfold eCut
    rw [hf]
    show (part none ρ).bind (fun l => (part (some a) ρ).bind fun h => dCut l h (.str f)) = _
    rw [part_some ha]
    show dCut none (some ((k : Nat) : Int)) (.str f) = _
    rw [v_cutS _ _ _ (by omega), cut_hi]
  have c2 : eCut (eVar 1) (some (e2 dAdd a (eC (.int 3)))) none ρ = .ok (.str (f.drop (k + 3))) := by
    unfold eCut
    rw [hf]
    show (part (some (e2 dAdd a (eC (.int 3)))) ρ).bind (fun l => (part none ρ).bind fun h => dCut l h (.str f)) = _
    rw [part_some (i := ((k + 3 : Nat) : Int)) (e2_to (y := .int 3) ha rfl rfl)]
    show dCut (some ((k + 3 : Nat) : Int)) none (.str f) = _
    rw [v_cutS _ _ _ (by omega), cut_lo]
  have l1 : (f.take k).length ≤ 1000 := by rw [List.length_take]; omega
  have l2 : (f.drop (k + 3)).length ≤ 1000 := by rw [List.length_drop]; omega
  exact e2_to (e2_to c1 rfl (v_addS _ _ (by show _ + 3 ≤ _; omega))) c2 (v_addS _ _ (by rw [List.length_append]; show _ + 3 + _ ≤ _; omega))
theorem shape_loop (N : Option SV) : ∀ (m : Nat) (f : List Nat) (x : Option SV) (W : Nat), Bits f → ones f ≤ m → f.length ≤ 1000 → m < W →
    ∃ x', whileD (tB (e2 dInX (eC (.str [48, 49, 49])) (eVar 1))) (sSeq (sSet 2 (eM1 isTL dIndex (eVar 1) (eC (.str [48, 49, 49])))) (sSet 1 (e2 dAdd (e2 dAdd (eCut (eVar 1) none (some (eVar 2))) (eC (.str [49, 48, 48]))) (eCut (eVar 1) (some (e2 dAdd (eVar 2) (eC (.int 3)))) none)))) W [N, sh (.str f), x] = .nx [N, sh (.str (red m f).2), x'] := by
  intro m
  induction m with
  | zero =>
    intro f x W hb hm hl hW
    obtain ⟨W, rfl⟩ : ∃ V, W = V + 1 := ⟨W - 1, by omega⟩
    have q : sp f = none := (red_ok 0 f hb hm).2.2.2.1
    refine ⟨x, while_end (tB_ok (e2_to rfl rfl ?_))⟩
    rw [in3, sp_nox q]
    rfl
  | succ m ih =>
    intro f x W hb hm hl hW
    obtain ⟨W, rfl⟩ : ∃ V, W = V + 1 := ⟨W - 1, by omega⟩
    cases q : sp f with
    | none =>
      unfold red
      rw [q]
      refine ⟨x, while_end (tB_ok (e2_to rfl rfl ?_))⟩
      rw [in3, sp_nox q]
      rfl
    | some g =>
      have h1 := sp_ones q
      obtain ⟨a, b, e1, e2', e3⟩ := sp_split q
      have eg : g = f.take a.length ++ [49, 48, 48] ++ f.drop (a.length + 3) := by
        have q2 := q
        unfold sp at q2
        rw [e3] at q2
        exact (Option.some.inj q2).symm
      obtain ⟨x', h⟩ := ih g (sh (.int (a.length : Nat))) W (sp_bits q hb) (by omega) (by rw [sp_len q]; exact hl) (by omega)
      refine ⟨x', ?_⟩
      unfold red
      rw [q]
      refine while_step (tB_ok (e2_to rfl rfl (by rw [in3, e3]; rfl))) (seqTo (ρ' := [N, sh (.str f), sh (.int (a.length : Nat))]) (set_to (eM1_to rfl rfl rfl (ix3 e3)) rfl rfl) (set_to (cut_ok rfl rfl hl) rfl (by rw [← eg]; rfl))) h
theorem bits0 {x : List Nat} (hb : Bits x) : Bits (48 :: x) := fun c hc => by
  rcases List.mem_cons.mp hc with rfl | hc
  · exact .inl rfl
  · exact hb c hc
theorem shaped_ok {x : List Nat} (hb : Bits x) (h1 : 1 ≤ x.length) (h2 : x.length ≤ 59) (hw : wv x ≤ 1000000000000) : growing_shaped [.str x] = .ok (.str (zk (wv x))) := by
  have ol : ones (48 :: x) ≤ 60 := Nat.le_trans (List.count_le_length) (by rw [List.length_cons]; omega)
  obtain ⟨x', h⟩ := shape_loop (sh (.str x)) 60 (48 :: x) none 100000 (bits0 hb) ol (by rw [List.length_cons]; omega) (by decide)
  rw [red_gr hb ol] at h
  have fin : eIf (tB (e2 dNe (eVar 1) (eC (.str [])))) (eVar 1) (eC (.str [48])) [sh (.str x), sh (.str (st (gr (x.length + 1) (wv x)))), x'] = .ok (.str (zk (wv x))) := by
    rw [zk_of (wv_fb x) (by omega)]
    by_cases e : wv x = 0
    · rw [show zk (wv x) = [48] from if_pos e, e, st_nil (gr_bits _ _) (gr_zero _)]
      exact eIf_f rfl rfl
    · rw [show zk (wv x) = st (gr 60 (wv x)) from if_neg e]
      have h0 := wv_nonneg x
      have w := gr_wv 60 (wv x) h0 (by rw [fb60]; omega)
      have : 49 ∈ gr 60 (wv x) := by
        rcases Classical.em (49 ∈ gr 60 (wv x)) with z | z
        · exact z
        · rw [wv_none z] at w
          exact absurd w.symm e
      refine eIf_t (tB_ok (e2_to rfl rfl ?_)) rfl
      rw [v_neS, decide_eq_false (st_has (gr_bits _ _) this)]
      rfl
  exact run_rt (ρ := [sh (.str x), none, none]) rfl (seqTo (expr_ok (eN_to (args_cons rfl args_nil) (figures_ok hb h1 (by omega) hw))) (seqTo (ρ' := [sh (.str x), sh (.str (48 :: x)), none]) (set_to (e2_to rfl rfl (v_addS [48] x (by show 1 + _ ≤ _; omega))) rfl rfl) (seqTo h (seqTo (set_to (eM1_to rfl rfl rfl (strip_ok (by rw [gr_len]; omega))) rfl rfl) (ret_ok fin)))))
theorem steps_loop (N : Option SV) : ∀ (m : Nat) (f : List Nat) (n : Nat) (x : Option SV) (W : Nat), Bits f → ones f ≤ m → f.length ≤ 1000 → m < W →
    ∃ t x', whileD (tB (e2 dInX (eC (.str [48, 49, 49])) (eVar 1))) (sSeq (sSet 3 (eM1 isTL dIndex (eVar 1) (eC (.str [48, 49, 49])))) (sSeq (sSet 1 (e2 dAdd (e2 dAdd (eCut (eVar 1) none (some (eVar 3))) (eC (.str [49, 48, 48]))) (eCut (eVar 1) (some (e2 dAdd (eVar 3) (eC (.int 3)))) none))) (sSet 2 (e2 dAdd (eVar 2) (eC (.int 1)))))) W [N, sh (.str f), sh (.int (n : Nat)), x] = .nx [N, t, sh (.int ((n + (red m f).1 : Nat) : Int)), x'] := by
  intro m
  induction m with
  | zero =>
    intro f n x W hb hm hl hW
    obtain ⟨W, rfl⟩ : ∃ V, W = V + 1 := ⟨W - 1, by omega⟩
    have q : sp f = none := (red_ok 0 f hb hm).2.2.2.1
    refine ⟨_, x, while_end (tB_ok (e2_to rfl rfl ?_))⟩
    rw [in3, sp_nox q]
    rfl
  | succ m ih =>
    intro f n x W hb hm hl hW
    obtain ⟨W, rfl⟩ : ∃ V, W = V + 1 := ⟨W - 1, by omega⟩
    cases q : sp f with
    | none =>
      unfold red
      rw [q]
      refine ⟨_, x, while_end (tB_ok (e2_to rfl rfl ?_))⟩
      rw [in3, sp_nox q]
      rfl
    | some g =>
      have h1 := sp_ones q
      obtain ⟨a, b, e1, e2', e3⟩ := sp_split q
      have eg : g = f.take a.length ++ [49, 48, 48] ++ f.drop (a.length + 3) := by
        have q2 := q
        unfold sp at q2
        rw [e3] at q2
        exact (Option.some.inj q2).symm
      obtain ⟨t, x', h⟩ := ih g (n + 1) (sh (.int (a.length : Nat))) W (sp_bits q hb) (by omega) (by rw [sp_len q]; exact hl) (by omega)
      refine ⟨t, x', ?_⟩
      unfold red
      rw [q]
      rw [show n + 1 + (red m g).1 = n + ((red m g).1 + 1) by omega] at h
      refine while_step (ρ' := [N, sh (.str g), sh (.int ((n + 1 : Nat) : Int)), sh (.int (a.length : Nat))]) (tB_ok (e2_to rfl rfl (by rw [in3, e3]; rfl))) (seqTo (ρ' := [N, sh (.str f), sh (.int (n : Nat)), sh (.int (a.length : Nat))]) (set_to (eM1_to rfl rfl rfl (ix3 e3)) rfl rfl) (seqTo (set_to (d := .str g) (by rw [eg]; exact cut_ok rfl rfl hl) rfl rfl) (set_to (e2_to rfl rfl rfl) rfl rfl))) h
theorem gsteps_ok {x : List Nat} (hb : Bits x) (h1 : 1 ≤ x.length) (h2 : x.length ≤ 59) (hw : wv x ≤ 1000000000000) : growing_steps_of [.str x] = .ok (.int ((red 60 (48 :: x)).1 : Nat)) := by
  have ol : ones (48 :: x) ≤ 60 := Nat.le_trans (List.count_le_length) (by rw [List.length_cons]; omega)
  obtain ⟨t, x', h⟩ := steps_loop (sh (.str x)) 60 (48 :: x) 0 none 100000 (bits0 hb) ol (by rw [List.length_cons]; omega) (by decide)
  rw [Nat.zero_add] at h
  exact run_rt (ρ := [sh (.str x), none, none, none]) rfl (seqTo (expr_ok (eN_to (args_cons rfl args_nil) (figures_ok hb h1 (by omega) hw))) (seqTo (ρ' := [sh (.str x), sh (.str (48 :: x)), sh (.int 0), none]) (par2_ok (o := false) (o2 := false) (d2 := .int 0) (e2_to rfl rfl (v_addS [48] x (by show 1 + _ ≤ _; omega))) rfl rfl rfl rfl) (seqTo h (ret_ok rfl))))
theorem first_at {p : List Nat} (hp : p ≠ []) : ∀ (f : List Nat) (k : Nat), infixAt p f = some k → (∀ i, i < k → ((f.drop i).take p.length == p) = false) ∧ ((f.drop k).take p.length == p) = true
  | [], k, h => by
    unfold infixAt at h
    rw [if_neg (by simpa using hp)] at h
    cases h
  | c :: r, k, h => by
    unfold infixAt at h
    split at h
    · rename_i e
      cases h
      refine ⟨fun i hi => absurd hi (by omega), ?_⟩
      rw [List.drop_zero]
      exact beq_iff_eq.mpr (List.prefix_iff_eq_take.mp (List.isPrefixOf_iff_prefix.mp e)).symm
    · rename_i e
      cases q : infixAt p r with
      | none => rw [q] at h; cases h
      | some j =>
        rw [q] at h
        cases h
        obtain ⟨i1, i2⟩ := first_at hp r j q
        refine ⟨fun i hi => ?_, i2⟩
        cases i with
        | zero =>
          rw [List.drop_zero]
          cases z : ((c :: r).take p.length == p) with
          | false => rfl
          | true => exact absurd (List.isPrefixOf_iff_prefix.mpr (List.prefix_iff_eq_take.mpr (eq_of_beq z).symm)) e
        | succ i => exact i1 i (by have : i + 1 < j + 1 := hi; omega)
theorem none_at {p : List Nat} (hp : p ≠ []) : ∀ (f : List Nat), infixAt p f = none → ∀ i, ((f.drop i).take p.length == p) = false
  | [], _, i => by
    rw [List.drop_nil, List.take_nil]
    cases p with
    | nil => exact absurd rfl hp
    | cons a p => rfl
  | c :: r, h, i => by
    unfold infixAt at h
    split at h
    · cases h
    · rename_i e
      have hr : infixAt p r = none := by
        cases q : infixAt p r with
        | none => rfl
        | some j => rw [q] at h; cases h
      cases i with
      | zero =>
        rw [List.drop_zero]
        cases z : ((c :: r).take p.length == p) with
        | false => rfl
        | true => exact absurd (List.isPrefixOf_iff_prefix.mpr (List.prefix_iff_eq_take.mpr (eq_of_beq z).symm)) e
      | succ i => exact none_at hp r hr i
/-- the places of 011 -/
def spots (f : List Nat) : List Nat := (List.range (f.length - 2)).filter fun i => ((f.drop i).take 3 == [48, 49, 49])
theorem spots_none {f : List Nat} (h : infixAt [48, 49, 49] f = none) : spots f = [] := by
  unfold spots
  rw [List.filter_eq_nil_iff]
  intro i _
  have z := none_at (p := [48, 49, 49]) (by decide) f h i
  show ¬((f.drop i).take [48, 49, 49].length == [48, 49, 49]) = true
  rw [z]
  exact Bool.false_ne_true
theorem filter_head {p : Nat → Bool} {n k : Nat} (hk : k < n) (hp : p k = true) (hn : ∀ i, i < k → p i = false) : ((List.range n).filter p)[0]? = some k := by
  have e : List.range n = List.range k ++ (k :: List.range' (k + 1) (n - k - 1)) := by
    rw [List.range_eq_range', List.range_eq_range', ← List.range'_succ, show n - k - 1 + 1 = n - k by omega]
    have := List.range'_append (s := 0) (m := k) (n := n - k) (step := 1)
    rw [Nat.one_mul, Nat.zero_add] at this
    rw [this, show k + (n - k) = n by omega]
  rw [e, List.filter_append, List.filter_cons_of_pos hp, List.filter_eq_nil_iff.mpr (fun i hi => by
    rw [List.mem_range] at hi
    rw [hn i hi]
    exact Bool.false_ne_true)]
  rfl
theorem spots_some {f : List Nat} {k : Nat} (h : infixAt [48, 49, 49] f = some k) : (spots f)[0]? = some k := by
  obtain ⟨h1, h2⟩ := first_at (by decide) f k h
  obtain ⟨a, b, e1, e2⟩ := infix_split _ f k h
  refine filter_head ?_ h2 h1
  rw [e1, List.length_append, List.length_append, e2]
  show k < k + (3 + b.length) - 2
  omega
theorem sgn_eq : ∀ x y : List Nat, D.eqvAll (sgns x) (sgns y) = (x == y)
  | [], [] => rfl
  | [], _ :: _ => rfl
  | _ :: _, [] => rfl
  | a :: x, b :: y => by
    show (([a] == [b]) && D.eqvAll (sgns x) (sgns y)) = (a :: x == b :: y)
    rw [sgn_eq x y]
    by_cases h : a = b <;> by_cases h2 : x = y <;> simp [h, h2]
theorem lay_sgn {x : List Nat} (h : Bits x) : D.layAll 19 (sgns x) = true := lay_all fun d hd => by
  obtain ⟨c, hc, rfl⟩ := List.mem_map.mp hd
  refine lay_str (fun e he => ?_) 19
  rw [List.mem_singleton] at he
  subst he
  rcases h e hc with rfl | rfl <;> decide
theorem eq_sgns {x y : List Nat} (hx : Bits x) (hy : Bits y) : dEq (.lst (sgns x)) (.lst (sgns y)) = .ok (.bl (x == y)) := by
  unfold dEq
  have h1 : D.lay 20 (.lst (sgns x)) = true := lay_sgn hx
  have h2 : D.lay 20 (.lst (sgns y)) = true := lay_sgn hy
  rw [h1, h2, Bool.and_true, Bool.or_true, if_pos rfl]
  show Res.ok (D.bl (D.eqvAll (sgns x) (sgns y))) = _
  rw [sgn_eq]
end NB
end

section
set_option linter.all false
set_option autoImplicit false
set_option maxRecDepth 100000
namespace NB
open Res
def LB : DS := (sSeq (sSet 4 (eN law_drawn [(eVar 2), (e2 dAdd (eC (.int 10)) (eVar 3))]))
    (sSeq (sSet 5 (eN law_number [(eVar 4)]))
    (sSeq (sSet 6 (eN law_numeral [(eVar 5)]))
    (sSeq (sIf (tOr (tB (e2 dNe (eN growing_write [(eVar 5)]) (eVar 6))) (tOr (tB (e2 dNe (eN growing_read [(eVar 6)]) (eVar 5))) (tOr (tB (e2 dNe (eN growing_worth [(eVar 6)]) (eVar 5))) (tB (e2 dInX (eC (.str [49, 49])) (eVar 6))))))
    (sRet (eC (.bl false)))
    sNil)
    (sSeq (sIf (tAnd (tB (e2 dLt (eVar 5) (eC (.int 1000000000000)))) (tB (e2 dNe (eN growing_behind [(eVar 6)]) (eN law_numeral [(e2 dAdd (eVar 5) (eC (.int 1)))]))))
    (sRet (eC (.bl false)))
    sNil)
    (sSeq (sSet 7 (e2 dAdd (eC (.int 1)) (e2 dMod (e2 dDiv (eVar 4) (eC (.int 8))) (eC (.int 40)))))
    (sSeq (sSet 8 (eM1 isTx dJoin (eC (.str [])) (eLc (iRange1 (eVar 7)) [9] (gSet 9) tYes (e2 dIx (eC (.str [48, 49])) (e2 dMod (e2 dMod (e2 dDiv (eN law_drawn [(eVar 4), (eVar 9)]) (eC (.int 8))) (e2 dIx (eN dLst [(eC (.int 2)), (eC (.int 4))]) (e2 dMod (eVar 4) (eC (.int 2))))) (eC (.int 2)))))))
    (sSeq (sIf (tOr (tB (e2 dNe (eN growing_worth [(eVar 8)]) (eN law_worth [(eVar 8)]))) (tB (e2 dNe (eN growing_shaped [(eVar 8)]) (eN law_numeral [(eN law_worth [(eVar 8)])]))))
    (sRet (eC (.bl false)))
    sNil)
    (sIf (tOr (tB (e2 dNe (eN growing_steps_of [(eVar 8)]) (eN law_steps [(eVar 8)]))) (tOr (tB (e2 dNe (eN growing_steps_of [(eVar 6)]) (eC (.int 0)))) (tB (e2 dNe (eN growing_shaped [(eVar 6)]) (eVar 6)))))
    (sRet (eC (.bl false)))
    sNil)))))))))
def IFA : DS := (sIf (tOr (tB (e2 dNe (eN growing_write [(eVar 5)]) (eVar 6))) (tOr (tB (e2 dNe (eN growing_read [(eVar 6)]) (eVar 5))) (tOr (tB (e2 dNe (eN growing_worth [(eVar 6)]) (eVar 5))) (tB (e2 dInX (eC (.str [49, 49])) (eVar 6))))))
    (sRet (eC (.bl false)))
    sNil)
def IFB : DS := (sIf (tAnd (tB (e2 dLt (eVar 5) (eC (.int 1000000000000)))) (tB (e2 dNe (eN growing_behind [(eVar 6)]) (eN law_numeral [(e2 dAdd (eVar 5) (eC (.int 1)))]))))
    (sRet (eC (.bl false)))
    sNil)
def IFC : DS := (sIf (tOr (tB (e2 dNe (eN growing_worth [(eVar 8)]) (eN law_worth [(eVar 8)]))) (tB (e2 dNe (eN growing_shaped [(eVar 8)]) (eN law_numeral [(eN law_worth [(eVar 8)])]))))
    (sRet (eC (.bl false)))
    sNil)
def IFD : DS := (sIf (tOr (tB (e2 dNe (eN growing_steps_of [(eVar 8)]) (eN law_steps [(eVar 8)]))) (tOr (tB (e2 dNe (eN growing_steps_of [(eVar 6)]) (eC (.int 0)))) (tB (e2 dNe (eN growing_shaped [(eVar 6)]) (eVar 6)))))
    (sRet (eC (.bl false)))
    sNil)
def S8 : DS := (sSet 8 (eM1 isTx dJoin (eC (.str [])) (eLc (iRange1 (eVar 7)) [9] (gSet 9) tYes (e2 dIx (eC (.str [48, 49])) (e2 dMod (e2 dMod (e2 dDiv (eN law_drawn [(eVar 4), (eVar 9)]) (eC (.int 8))) (e2 dIx (eN dLst [(eC (.int 2)), (eC (.int 4))]) (e2 dMod (eVar 4) (eC (.int 2))))) (eC (.int 2)))))))
def LAST : DS := (sIf (tB (e2 dNe (eLc (iRange1 (eC (.int 120))) [5] (gSet 5) tYes (eN growing_write [(eVar 5)])) (eLc (iRange1 (eC (.int 120))) [5] (gSet 5) tYes (eN law_numeral [(eVar 5)]))))
    (sRet (eC (.bl false)))
    sNil)
def SLB : DS := (sSeq (sSet 3 (eThaw 1 (eLc (iRange1 (e2 dSub (eN fLen [(eOwn 1)]) (eC (.int 2)))) [4] (gSet 4) (tB (e2 dEq (eCut (eVar 1) (some (eVar 4)) (some (e2 dAdd (eVar 4) (eC (.int 3))))) (eN dLst [(eC (.str [48])), (eC (.str [49])), (eC (.str [49]))]))) (eVar 4))))
    (sSeq (sIf (tB (e2 dEq (eVar 3) (eN dLst [])))
    (sRet (eVar 2))
    sNil)
    (sSeq (sPutSl 1 (e2 dIx (eVar 3) (eC (.int 0))) (e2 dAdd (e2 dIx (eVar 3) (eC (.int 0))) (eC (.int 3))) (eN dLst [(eC (.str [49])), (eC (.str [48])), (eC (.str [48]))]))
    (sSet 2 (e2 dAdd (eVar 2) (eC (.int 1)))))))
end NB
end

section
set_option linter.all false
set_option autoImplicit false
set_option maxRecDepth 100000
namespace NB
open Res
theorem putSl_ok {i : Nat} {lo hi e : DE} {ρ ρ' : Env} {xs ys : List D} {a c : Nat} (he : e ρ = .ok (.lst ys)) (h : ρ[i]? = some (some (.own (.lst xs)))) (hlo : lo ρ = .ok (.int (a : Nat))) (hhi : hi ρ = .ok (.int (c : Nat))) (h1 : a ≤ c) (h2 : c ≤ xs.length) (h3 : xs.length + ys.length < 16777216)
    (h4 : ρ.set i (some (.own (.lst (xs.take a ++ ys ++ xs.drop c)))) = ρ') : sPutSl i lo hi e ρ = .nx ρ' := by
  unfold sPutSl ofR
  rw [he]
  simp only [h, hlo, hhi]
  show (if 0 ≤ ((a : Nat) : Int) ∧ ((a : Nat) : Int) ≤ ((c : Nat) : Int) ∧ ((c : Nat) : Int) ≤ (xs.length : Nat) ∧ xs.length + ys.length < line then Out.nx (ρ.set i (some (.own (.lst (xs.take ((a : Nat) : Int).toNat ++ ys ++ xs.drop ((c : Nat) : Int).toNat))))) else .stuck) = _
  rw [if_pos ⟨by omega, by omega, by omega, h3⟩, Int.toNat_natCast, Int.toNat_natCast, h4]
theorem flat_ints : ∀ ns : List Nat, ((ns.map fun i : Nat => D.int (i : Nat)).all flatD) = true
  | [] => rfl
  | n :: ns => flat_ints ns
theorem bits_sub {x : List Nat} (h : Bits x) (i k : Nat) : Bits ((x.drop i).take k) := fun c hc => h c (List.mem_of_mem_drop (List.mem_of_mem_take hc))
theorem spots_ok {T n x3 x4 : Option SV} {f : List Nat} (hb : Bits f) (hl : f.length ≤ 1000) :
    eThaw 1 (eLc (iRange1 (e2 dSub (eN fLen [(eOwn 1)]) (eC (.int 2)))) [4] (gSet 4) (tB (e2 dEq (eCut (eVar 1) (some (eVar 4)) (some (e2 dAdd (eVar 4) (eC (.int 3))))) (eN dLst [(eC (.str [48])), (eC (.str [49])), (eC (.str [49]))]))) (eVar 4)) [T, some (.own (.lst (sgns f))), n, x3, x4] = .ok (.lst ((spots f).map fun i : Nat => D.int (i : Nat))) := by
  have rg := range1 (ρ := [T, sh (.lst (sgns f)), n, x3, x4]) (a := e2 dSub (eN fLen [(eOwn 1)]) (eC (.int 2))) (z := (f.length : Int) - 2) (e2_to (eN_to (args_cons rfl args_nil) (v_lenL _)) rfl (by rw [List.length_map]; rfl)) (by omega) (by omega)
  rw [show ((f.length : Int) - 2).toNat = f.length - 2 by omega] at rg
  have lc := eLc_onF (ρ := [T, sh (.lst (sgns f)), n, x3, x4]) (it := iRange1 (e2 dSub (eN fLen [(eOwn 1)]) (eC (.int 2)))) (vs := [4]) (g := gSet 4) (c := tB (e2 dEq (eCut (eVar 1) (some (eVar 4)) (some (e2 dAdd (eVar 4) (eC (.int 3))))) (eN dLst [(eC (.str [48])), (eC (.str [49])), (eC (.str [49]))]))) (e := eVar 4) (List.range (f.length - 2)) (fun i : Nat => D.int (i : Nat)) (fun i : Nat => D.int (i : Nat)) (fun i => ((f.drop i).take 3 == [48, 49, 49])) rg (fun i _ => by
    refine ⟨_, rfl, tB_ok (e2_to (x := .lst (sgns ((f.drop i).take 3))) (y := .lst (sgns [48, 49, 49])) ?_ rfl (eq_sgns (bits_sub hb i 3) (by intro c hc; simp at hc; exact hc.elim .inl fun z => .inr z))), fun _ => rfl⟩
    show dCut (some ((i : Nat) : Int)) (some (((i : Nat) : Int) + 3)) (.lst (sgns f)) = _
    rw [v_cutL, show ((i : Nat) : Int) + 3 = ((i + 3 : Nat) : Int) from rfl, cut_both, show i + 3 - i = 3 by omega]
    unfold sgns
    rw [List.map_take, List.map_drop]) (by rw [List.length_range]; omega)
  unfold eThaw
  show thawD (eLc _ _ _ _ _ [T, sh (.lst (sgns f)), n, x3, x4]) = _
  rw [lc]
  show (if ((spots f).map fun i : Nat => D.int (i : Nat)).all flatD then Res.ok (D.lst ((spots f).map fun i : Nat => D.int (i : Nat))) else .stuck) = _
  rw [if_pos (flat_ints _)]
theorem eq_nil (ns : List Nat) : dEq (.lst (ns.map fun i : Nat => D.int (i : Nat))) (.lst []) = .ok (.bl ns.isEmpty) := by
  have h := dEq_ints (ns.map fun i : Nat => (i : Int)) []
  have e : dints (ns.map fun i : Nat => (i : Int)) = ns.map fun i : Nat => D.int (i : Nat) := by
    unfold dints
    rw [List.map_map]
    rfl
  rw [e] at h
  cases ns <;> exact h
theorem lsteps_loop (T : Option SV) : ∀ (m : Nat) (f : List Nat) (n : Nat) (x3 x4 : Option SV) (W : Nat), Bits f → ones f ≤ m → f.length ≤ 1000 → m < W →
    whileD (tT (eC (.bl true))) SLB W [T, some (.own (.lst (sgns f))), sh (.int (n : Nat)), x3, x4] = .rt (.int ((n + (red m f).1 : Nat) : Int)) := by
  have stop : ∀ (f : List Nat) (n : Nat) (x3 x4 : Option SV), Bits f → f.length ≤ 1000 → sp f = none → SLB [T, some (.own (.lst (sgns f))), sh (.int (n : Nat)), x3, x4] = .rt (.int (n : Nat)) := fun f n x3 x4 hb hl q => by
    have s := spots_ok (T := T) (n := sh (.int (n : Nat))) (x3 := x3) (x4 := x4) hb hl
    rw [spots_none (sp_nox q)] at s
    exact seqTo (set_to s rfl rfl) (seq_rt (ifT (tB_ok (e2_to rfl rfl rfl)) (ret_ok rfl)))
  intro m
  induction m with
  | zero =>
    intro f n x3 x4 W hb hm hl hW
    obtain ⟨W, rfl⟩ : ∃ V, W = V + 1 := ⟨W - 1, by omega⟩
    exact while_ret rfl (stop f n x3 x4 hb hl (red_ok 0 f hb hm).2.2.2.1)
  | succ m ih =>
    intro f n x3 x4 W hb hm hl hW
    obtain ⟨W, rfl⟩ : ∃ V, W = V + 1 := ⟨W - 1, by omega⟩
    cases q : sp f with
    | none =>
      unfold red
      rw [q]
      exact while_ret rfl (stop f n x3 x4 hb hl q)
    | some g =>
      have h1 := sp_ones q
      obtain ⟨a, b, e1, e2', e3⟩ := sp_split q
      have s := spots_ok (T := T) (n := sh (.int (n : Nat))) (x3 := x3) (x4 := x4) hb hl
      have hs := spots_some e3
      obtain ⟨r, hr⟩ : ∃ r, spots f = a.length :: r := by
        cases z : spots f with
        | nil => rw [z] at hs; cases hs
        | cons c r =>
          rw [z] at hs
          cases hs
          exact ⟨r, rfl⟩
      rw [hr] at s
      have ih := ih g (n + 1) (sh (.lst ((a.length :: r).map fun i : Nat => D.int (i : Nat)))) x4 W (sp_bits q hb) (by omega) (by rw [sp_len q]; exact hl) (by omega)
      unfold red
      rw [q]
      rw [show n + 1 + (red m g).1 = n + ((red m g).1 + 1) by omega] at ih
      have fl : f.length = a.length + (b.length + 3) := by rw [e1, List.length_append]; rfl
      have spl : sPutSl 1 (e2 dIx (eVar 3) (eC (.int 0))) (e2 dAdd (e2 dIx (eVar 3) (eC (.int 0))) (eC (.int 3))) (eN dLst [(eC (.str [49])), (eC (.str [48])), (eC (.str [48]))]) [T, some (.own (.lst (sgns f))), sh (.int (n : Nat)), sh (.lst ((a.length :: r).map fun i : Nat => D.int (i : Nat))), x4] = .nx [T, some (.own (.lst (sgns g))), sh (.int (n : Nat)), sh (.lst ((a.length :: r).map fun i : Nat => D.int (i : Nat))), x4] := by
        have ix : ∀ ρ : Env, ρ[3]? = some (sh (.lst ((a.length :: r).map fun i : Nat => D.int (i : Nat)))) → e2 dIx (eVar 3) (eC (.int 0)) ρ = .ok (.int (a.length : Nat)) := fun ρ hr => e2_to (x := .lst ((a.length :: r).map fun i : Nat => D.int (i : Nat))) (by unfold eVar; rw [hr]) rfl (v_ixL (d := 0) rfl)
        refine putSl_ok (xs := sgns f) (ys := sgns [48 + 1, 48, 48]) (a := a.length) (c := a.length + 3) rfl rfl (ix _ rfl) (e2_to (ix _ rfl) rfl rfl) (by omega) (by rw [List.length_map]; omega) (by rw [List.length_map]; show f.length + 3 < 16777216; omega) ?_
        have eg : g = f.take a.length ++ [49, 48, 48] ++ f.drop (a.length + 3) := by
          have q2 := q
          unfold sp at q2
          rw [e3] at q2
          exact (Option.some.inj q2).symm
        rw [eg]
        unfold sgns
        rw [List.map_append, List.map_append, List.map_take, List.map_drop]
        rfl
      exact while_step rfl (seqTo (set_to s rfl rfl) (seqTo (ifF (tB_ok (e2_to rfl rfl (eq_nil _))) rfl) (seqTo spl (set_to (e2_to rfl rfl rfl) rfl rfl)))) ih
theorem lsteps_ok {x : List Nat} (hb : Bits x) (h2 : x.length ≤ 59) : law_steps [.str x] = .ok (.int ((red 60 (48 :: x)).1 : Nat)) := by
  have ol : ones (48 :: x) ≤ 60 := Nat.le_trans (List.count_le_length) (by rw [List.length_cons]; omega)
  have h := lsteps_loop (sh (.str x)) 60 (48 :: x) 0 none none 100000 (bits0 hb) ol (by rw [List.length_cons]; omega) (by decide)
  rw [Nat.zero_add] at h
  have l : e2 dCatL (eN dLst [(eC (.str [48]))]) (eN fListS [(eVar 0)]) [sh (.str x), none, none, none, none] = .ok (.lst (sgns (48 :: x))) := by
    refine e2_to (y := .lst (sgns x)) rfl (eN_to (args_cons rfl args_nil) ?_) ?_
    · exact if_pos (show x.length < 16777216 by omega)
    · exact if_pos (by rw [List.length_map]; show 1 + x.length < 16777216; omega)
  exact run_rt (ρ := [sh (.str x), none, none, none, none]) rfl (seqTo (ρ' := [sh (.str x), some (.own (.lst (sgns (48 :: x)))), sh (.int 0), none, none]) (par2_ok (o := true) (o2 := false) (d2 := .int 0) l rfl rfl rfl rfl) h)
theorem number_ok {m : Int} (h0 : 0 ≤ m) : ∃ n, law_number [.int m] = .ok (.int n) ∧ 0 ≤ n ∧ n ≤ 1000000000000 := by
  obtain ⟨q, hq⟩ : ∃ q, q = m / 8 := ⟨_, rfl⟩
  have q0 : 0 ≤ q := by omega
  have ds : ∀ (ρ : Env), ρ[0]? = some (sh (.int m)) → e2 dDiv (eVar 0) (eC (.int 8)) ρ = .ok (.int q) := fun ρ hr => by
    rw [hq]
    exact e2_to (x := .int m) (by unfold eVar; rw [hr]) rfl (dDiv_int (by decide))
  obtain ⟨x, hx, hix⟩ := v_pick [.int (q % 30), .int (q % 1000), .int (q % 1000000000001), .int (1000000000000 - q % 3), .int (1 + q % 300)] m 5 rfl (by decide)
  have run : law_number [.int m] = .ok x := by
    have md : ∀ c : Int, 0 < c → ∀ (ρ : Env), ρ[0]? = some (sh (.int m)) → e2 dMod (e2 dDiv (eVar 0) (eC (.int 8))) (eC (.int c)) ρ = .ok (.int (q % c)) := fun c hc ρ hr => e2_to (ds ρ hr) rfl (dMod_int hc)
    refine run_rt (ρ := [sh (.int m), none, none]) rfl (seqTo (ρ' := [sh (.int m), sh (.int 1000000000000), none]) rfl (seqTo (ρ' := [sh (.int m), sh (.int 1000000000000), sh (.lst [.int (q % 30), .int (q % 1000), .int (q % 1000000000001), .int (1000000000000 - q % 3), .int (1 + q % 300)])]) (set_to (eN_to (args_cons (md 30 (by decide) _ rfl) (args_cons (md 1000 (by decide) _ rfl) (args_cons (e2_to (ds _ rfl) (e2_to rfl rfl rfl) (dMod_int (by decide))) (args_cons (e2_to rfl (md 3 (by decide) _ rfl) rfl) (args_cons (e2_to rfl (md 300 (by decide) _ rfl) rfl) args_nil))))) rfl) rfl rfl) (ret_ok (e2_to rfl (e2_to rfl rfl (dMod_int (by decide))) hix))))
  simp only [List.mem_cons, List.not_mem_nil, or_false] at hx
  rcases hx with rfl | rfl | rfl | rfl | rfl <;> exact ⟨_, run, by omega, by omega⟩
def sgf (p h i : Int) : Nat := if drw h i / 8 % p % 2 = 0 then 48 else 49
theorem signs_ok {S K M J N T x8 x9 : Option SV} {h : Int} {s : Nat} (hs : s ≤ 40) : ∃ x : List Nat, x.length = s ∧ Bits x ∧ S8 [S, K, M, J, sh (.int h), N, T, sh (.int (s : Nat)), x8, x9] = .nx [S, K, M, J, sh (.int h), N, T, sh (.int (s : Nat)), sh (.str x), x9] := by
  obtain ⟨y, hy, hix⟩ := v_pick [.int 2, .int 4] h 2 rfl (by decide)
  obtain ⟨p, hp, rfl⟩ : ∃ p : Int, 0 < p ∧ y = .int p := by
    simp only [List.mem_cons, List.not_mem_nil, or_false] at hy
    rcases hy with rfl | rfl
    · exact ⟨2, by decide, rfl⟩
    · exact ⟨4, by decide, rfl⟩
  have rg := range1 (ρ := [S, K, M, J, sh (.int h), N, T, sh (.int (s : Nat)), x8, x9]) (a := eVar 7) (z := (s : Nat)) rfl (by omega) (by omega)
  rw [Int.toNat_natCast] at rg
  have lc := eLc_on (vs := [9]) (g := gSet 9) (e := e2 dIx (eC (.str [48, 49])) (e2 dMod (e2 dMod (e2 dDiv (eN law_drawn [(eVar 4), (eVar 9)]) (eC (.int 8))) (e2 dIx (eN dLst [(eC (.int 2)), (eC (.int 4))]) (e2 dMod (eVar 4) (eC (.int 2))))) (eC (.int 2)))) (List.range s) (fun i : Nat => D.int (i : Nat)) (fun i => D.str [sgf p h (i : Nat)]) rg (fun i _ => by
    refine ⟨_, rfl, e2_to (y := .int (drw h (i : Nat) / 8 % p % 2)) rfl (e2_to (e2_to (e2_to (drawn_at (m := h) (c := (i : Nat)) rfl rfl) rfl (dDiv_int (by decide))) (e2_to rfl (e2_to rfl rfl (dMod_int (by decide))) hix) (dMod_int hp)) rfl (dMod_int (by decide))) ?_⟩
    unfold sgf
    have c : drw h (i : Nat) / 8 % p % 2 = 0 ∨ drw h (i : Nat) / 8 % p % 2 = 1 := by omega
    rcases c with c | c <;> rw [c] <;> rfl) (by rw [List.length_range]; omega)
  have e : (List.range s).map (fun i : Nat => D.str [sgf p h (i : Nat)]) = sgns ((List.range s).map fun i : Nat => sgf p h (i : Nat)) := by
    unfold sgns
    rw [List.map_map]
    rfl
  rw [e] at lc
  refine ⟨(List.range s).map fun i : Nat => sgf p h (i : Nat), by rw [List.length_map, List.length_range], fun c hc => ?_, set_to (eM1_to rfl rfl lc (v_joinS _ (by rw [List.length_map, List.length_range]; omega))) rfl rfl⟩
  obtain ⟨i, _, rfl⟩ := List.mem_map.mp hc
  unfold sgf
  split
  · exact .inl rfl
  · exact .inr rfl
theorem fb41 : fb 41 = 433494437 := by decide +kernel
theorem ne_str (x : List Nat) : dNe (.str x) (.str x) = .ok (.bl false) := by rw [v_neS, decide_eq_true rfl]; rfl
theorem ne_int (x : Int) : dNe (.int x) (.int x) = .ok (.bl false) := by rw [v_neI, decide_eq_true rfl]; rfl
theorem lb_ok {S K x4 x5 x6 x7 x8 x9 : Option SV} {m : Int} (j : Nat) : ∃ y4 y5 y6 y7 y8, LB [S, K, sh (.int m), sh (.int (j : Nat)), x4, x5, x6, x7, x8, x9] = .nx [S, K, sh (.int m), sh (.int (j : Nat)), y4, y5, y6, y7, y8, x9] := by
  obtain ⟨h, hh⟩ : ∃ h, h = drw m (10 + (j : Nat)) := ⟨_, rfl⟩
  have h0 : 0 ≤ h := by rw [hh]; exact (drw_range _ _).1
  obtain ⟨n, hn, n0, n1⟩ := number_ok h0
  obtain ⟨z1, z2, z3, z4, z5⟩ := zk_facts n0 (by omega)
  obtain ⟨s, hs⟩ : ∃ s : Nat, (s : Int) = 1 + h / 8 % 40 := ⟨(1 + h / 8 % 40).toNat, by omega⟩
  have s1 : 1 ≤ s ∧ s ≤ 40 := by omega
  have k4 : sSet 4 (eN law_drawn [(eVar 2), (e2 dAdd (eC (.int 10)) (eVar 3))]) [S, K, sh (.int m), sh (.int (j : Nat)), x4, x5, x6, x7, x8, x9] = .nx [S, K, sh (.int m), sh (.int (j : Nat)), sh (.int h), x5, x6, x7, x8, x9] := by
    rw [hh]
    exact set_to (drawn_at rfl rfl) rfl rfl
  have k5 : sSet 5 (eN law_number [(eVar 4)]) [S, K, sh (.int m), sh (.int (j : Nat)), sh (.int h), x5, x6, x7, x8, x9] = .nx [S, K, sh (.int m), sh (.int (j : Nat)), sh (.int h), sh (.int n), x6, x7, x8, x9] := set_to (eN_to (args_cons rfl args_nil) hn) rfl rfl
  have k6 : sSet 6 (eN law_numeral [(eVar 5)]) [S, K, sh (.int m), sh (.int (j : Nat)), sh (.int h), sh (.int n), x6, x7, x8, x9] = .nx [S, K, sh (.int m), sh (.int (j : Nat)), sh (.int h), sh (.int n), sh (.str (zk n)), x7, x8, x9] := set_to (eN_to (args_cons rfl args_nil) (lnum_ok n0 (by omega))) rfl rfl
  have gw := gworth_ok z1 z2 (by omega) (by rw [z4]; exact n1)
  rw [z4] at gw
  have kA : IFA [S, K, sh (.int m), sh (.int (j : Nat)), sh (.int h), sh (.int n), sh (.str (zk n)), x7, x8, x9] = .nx [S, K, sh (.int m), sh (.int (j : Nat)), sh (.int h), sh (.int n), sh (.str (zk n)), x7, x8, x9] := by
    refine ifF (tOr_ok (x := false) (y := false) (tB_ok (e2_to (eN_to (args_cons rfl args_nil) (gwrite_ok n0 n1)) rfl (ne_str _))) (tOr_ok (x := false) (y := false) (tB_ok (e2_to (eN_to (args_cons rfl args_nil) (gread_ok n0 n1)) rfl (ne_int _))) (tOr_ok (x := false) (y := false) (tB_ok (e2_to (eN_to (args_cons rfl args_nil) gw) rfl (ne_int _))) (tB_ok (e2_to rfl rfl ?_))))) rfl
    show Res.ok (D.bl (infixAt [49, 49] (zk n)).isSome) = _
    rw [no11_in _ z5]
    rfl
  have kB : IFB [S, K, sh (.int m), sh (.int (j : Nat)), sh (.int h), sh (.int n), sh (.str (zk n)), x7, x8, x9] = .nx [S, K, sh (.int m), sh (.int (j : Nat)), sh (.int h), sh (.int n), sh (.str (zk n)), x7, x8, x9] := by
    by_cases c : n < 1000000000000
    · exact ifF (tAnd_ok (x := true) (y := false) (tB_ok (e2_to rfl rfl (by rw [v_ltI, decide_eq_true c]))) (tB_ok (e2_to (eN_to (args_cons rfl args_nil) (gbehind_ok n0 c)) (eN_to (args_cons (e2_to rfl rfl rfl) args_nil) (lnum_ok (by omega) (by omega))) (ne_str _)))) rfl
    · refine ifF ?_ rfl
      have t : tB (e2 dLt (eVar 5) (eC (.int 1000000000000))) [S, K, sh (.int m), sh (.int (j : Nat)), sh (.int h), sh (.int n), sh (.str (zk n)), x7, x8, x9] = .ok false := tB_ok (e2_to rfl rfl (by rw [v_ltI, decide_eq_false c]))
      unfold tAnd
      rw [t]
      rfl
  have k7 : sSet 7 (e2 dAdd (eC (.int 1)) (e2 dMod (e2 dDiv (eVar 4) (eC (.int 8))) (eC (.int 40)))) [S, K, sh (.int m), sh (.int (j : Nat)), sh (.int h), sh (.int n), sh (.str (zk n)), x7, x8, x9] = .nx [S, K, sh (.int m), sh (.int (j : Nat)), sh (.int h), sh (.int n), sh (.str (zk n)), sh (.int (s : Nat)), x8, x9] := by
    rw [hs]
    exact set_to (e2_to rfl (e2_to (e2_to rfl rfl (dDiv_int (by decide))) rfl (dMod_int (by decide))) rfl) rfl rfl
  obtain ⟨x, xl, xb, k8⟩ := signs_ok (S := S) (K := K) (M := sh (.int m)) (J := sh (.int (j : Nat))) (N := sh (.int n)) (T := sh (.str (zk n))) (x8 := x8) (x9 := x9) (h := h) s1.2
  have w0 := wv_nonneg x
  have wl := wv_lt x
  have f41 := fb_le (show x.length + 1 ≤ 41 by omega)
  rw [fb41] at f41
  have kC : IFC [S, K, sh (.int m), sh (.int (j : Nat)), sh (.int h), sh (.int n), sh (.str (zk n)), sh (.int (s : Nat)), sh (.str x), x9] = .nx [S, K, sh (.int m), sh (.int (j : Nat)), sh (.int h), sh (.int n), sh (.str (zk n)), sh (.int (s : Nat)), sh (.str x), x9] :=
    ifF (tOr_ok (x := false) (y := false) (tB_ok (e2_to (eN_to (args_cons rfl args_nil) (gworth_ok xb (by omega) (by omega) (by omega))) (eN_to (args_cons rfl args_nil) (lworth_ok (by omega))) (ne_int _))) (tB_ok (e2_to (eN_to (args_cons rfl args_nil) (shaped_ok xb (by omega) (by omega) (by omega))) (eN_to (args_cons (eN_to (args_cons rfl args_nil) (lworth_ok (by omega))) args_nil) (lnum_ok w0 (by omega))) (ne_str _)))) rfl
  have st0 := gsteps_ok z1 z2 (by omega) (by rw [z4]; exact n1)
  have r0 : (red 60 (48 :: zk n)).1 = 0 := by
    have nn : No11 (48 :: zk n) := by
      cases q : zk n with
      | nil => trivial
      | cons b r =>
        rw [q] at z5
        exact ⟨fun z => absurd z.1 (by decide), z5⟩
    have : sp (48 :: zk n) = none := by
      unfold sp
      rw [no11_in3 _ nn]
      rfl
    unfold red
    rw [this]
  rw [r0] at st0
  have sh0 := shaped_ok z1 z2 (by omega) (by rw [z4]; exact n1)
  rw [z4] at sh0
  have kD : IFD [S, K, sh (.int m), sh (.int (j : Nat)), sh (.int h), sh (.int n), sh (.str (zk n)), sh (.int (s : Nat)), sh (.str x), x9] = .nx [S, K, sh (.int m), sh (.int (j : Nat)), sh (.int h), sh (.int n), sh (.str (zk n)), sh (.int (s : Nat)), sh (.str x), x9] :=
    ifF (tOr_ok (x := false) (y := false) (tB_ok (e2_to (eN_to (args_cons rfl args_nil) (gsteps_ok xb (by omega) (by omega) (by omega))) (eN_to (args_cons rfl args_nil) (lsteps_ok xb (by omega))) (ne_int _))) (tOr_ok (x := false) (y := false) (tB_ok (e2_to (eN_to (args_cons rfl args_nil) st0) rfl (ne_int _))) (tB_ok (e2_to (eN_to (args_cons rfl args_nil) sh0) rfl (ne_str _))))) rfl
  exact ⟨_, _, _, _, _, seqTo k4 (seqTo k5 (seqTo k6 (seqTo kA (seqTo kB (seqTo k7 (seqTo k8 (seqTo kC kD)))))))⟩
theorem lay_zk {n : Int} (h0 : 0 ≤ n) (h1 : n ≤ 1000000000001) (k : Nat) : D.lay k (.str (zk n)) = true := lay_str (fun c hc => by
  rcases (zk_facts h0 h1).1 c hc with rfl | rfl <;> decide) k
theorem last_ok {S K M x3 x4 x5 x6 x7 x8 x9 : Option SV} : LAST [S, K, M, x3, x4, x5, x6, x7, x8, x9] = .nx [S, K, M, x3, x4, x5, x6, x7, x8, x9] := by
  have rg := range1 (ρ := [S, K, M, x3, x4, x5, x6, x7, x8, x9]) (a := eC (.int 120)) (z := (120 : Nat)) rfl (by decide) (by decide)
  rw [Int.toNat_natCast] at rg
  have l1 := eLc_on (vs := [5]) (g := gSet 5) (e := eN growing_write [(eVar 5)]) (List.range 120) (fun i : Nat => D.int (i : Nat)) (fun i : Nat => D.str (zk (i : Nat))) rg (fun i hi => by
    rw [List.mem_range] at hi
    exact ⟨_, rfl, eN_to (args_cons rfl args_nil) (gwrite_ok (by omega) (by omega))⟩) (by rw [List.length_range]; omega)
  have l2 := eLc_on (vs := [5]) (g := gSet 5) (e := eN law_numeral [(eVar 5)]) (List.range 120) (fun i : Nat => D.int (i : Nat)) (fun i : Nat => D.str (zk (i : Nat))) rg (fun i hi => by
    rw [List.mem_range] at hi
    exact ⟨_, rfl, eN_to (args_cons rfl args_nil) (lnum_ok (by omega) (by omega))⟩) (by rw [List.length_range]; omega)
  refine ifF (tB_ok (e2_to l1 l2 (ne_self ?_))) rfl
  exact lay_all (n := 19) fun d hd => by
    obtain ⟨i, hi, rfl⟩ := List.mem_map.mp hd
    rw [List.mem_range] at hi
    exact lay_zk (by omega) (by omega) 19
theorem law_true : ∀ ns : List Int, ns.length ≤ 63 → law_law [.fzl (ns.map .int)] = .ok (.bl true) := by
  refine turns_ok (n := 10) (q := 4) (by decide) (by decide) rfl ?_
  intro sc k m tl hk0 hk1 hm0 hm1 hl
  match tl, hl with
  | [x3, x4, x5, x6, x7, x8, x9], _ =>
  obtain ⟨_, kL, y3, y4, y5, y6, y7, y8, rfl⟩ := for_inv (g := gSet 3) (b := LB) (fun n : Nat => D.int (n : Nat)) (fun l ρ => ∃ x3 x4 x5 x6 x7 x8, ρ = [sh (.fzl sc), sh (.int k), sh (.int m), x3, x4, x5, x6, x7, x8, x9]) (List.range 8) [sh (.fzl sc), sh (.int k), sh (.int m), x3, x4, x5, x6, x7, x8, x9] ⟨_, _, _, _, _, _, rfl⟩ (fun n l ρ ⟨x3, x4, x5, x6, x7, x8, e⟩ => by
    subst e
    obtain ⟨y4, y5, y6, y7, y8, e⟩ := lb_ok (S := sh (.fzl sc)) (K := sh (.int k)) (m := m) (x4 := x4) (x5 := x5) (x6 := x6) (x7 := x7) (x8 := x8) (x9 := x9) n
    exact ⟨_, _, rfl, e, _, _, _, _, _, _, rfl⟩)
  have kL' : sFor (iRange1 (eC (.int 8))) (gSet 3) LB [sh (.fzl sc), sh (.int k), sh (.int m), x3, x4, x5, x6, x7, x8, x9] = .nx [sh (.fzl sc), sh (.int k), sh (.int m), y3, y4, y5, y6, y7, y8, x9] := for_toR (range1 (z := 8) rfl (by decide) (by decide)) kL
  exact ⟨_, seqTo kL' last_ok, rfl⟩
end NB
end

section
set_option Elab.async false
set_option linter.all false
set_option maxRecDepth 100000
/-! NBRel: how a value of NB lies in the heap of the model. -/
namespace NB
open PySem PySem.Spec PyProof.Rows L2

abbrev tx (x : List Nat) : Str := ⟨x.toArray⟩
def kyK : Ky → Key
  | .i k => .inl k
  | .s x => .inr (tx x)

/-- a list that is locked, or of the module's own -/
def Fzl (K : PySem.W.Frag) (H : Hp) (a : Addr) (vs : List V) : Prop :=
  (∃ o, H a = some (.frz o (.lst vs))) ∨
    ∃ (o : Obj) (its : Array Value) (n : Nat), K.lookup a = some o ∧ o.cls = .type "list" ∧ o.dict = none ∧ o.data = .seq its n ∧ its.size ≤ sizeLine ∧ Vals vs its.toList
theorem Fzl.q {K : PySem.W.Frag} {H : Hp} {a : Addr} {vs : List V} (h : Fzl K H a vs) : SqL K H a vs := h.imp (fun ⟨o, z⟩ => .inr ⟨o, z⟩) id
mutual
inductive Rp (K : PySem.W.Frag) (H : Hp) (S : Addr → Prop) : V → D → Prop
  | non : Rp K H S .non .non
  | bl (b : Bool) : Rp K H S (.bl b) (.bl b)
  | int (i : Int) : Rp K H S (.int i) (.int i)
  | str (x : List Nat) : Rp K H S (.str (tx x)) (.str x)
  | lst {a : Addr} {vs : List V} {ds : List D} : ¬ S a → H a = some (.lst vs) → RpAll K H S vs ds → Rp K H S (.ref a) (.lst ds)
  | fzl {a : Addr} {vs : List V} {ds : List D} : Fzl K H a vs → RpAll K H S vs ds → Rp K H S (.ref a) (.fzl ds)
  | fzd {a : Addr} {o : Obj} {kvs : List (Key × V)} {ks : List Ky} {ds : List D} : H a = some (.frz o (.dK kvs)) → kvs.map (·.1) = ks.map kyK → RpAll K H S (kvs.map (·.2)) ds → Rp K H S (.ref a) (.fzd ks ds)
  | tup {a : Addr} {vs : List V} {ds : List D} : SqT K H a vs → RpAll K H S vs ds → Rp K H S (.ref a) (.tup ds)
  | dic {a : Addr} {kvs : List (Key × V)} {ks : List Ky} {ds : List D} : ¬ S a → H a = some (.dK kvs) → kvs.map (·.1) = ks.map kyK → RpAll K H S (kvs.map (·.2)) ds → Rp K H S (.ref a) (.dic ks ds)
inductive RpAll (K : PySem.W.Frag) (H : Hp) (S : Addr → Prop) : List V → List D → Prop
  | nil : RpAll K H S [] []
  | cons {v : V} {vs : List V} {d : D} {ds : List D} : Rp K H S v d → RpAll K H S vs ds → RpAll K H S (v :: vs) (d :: ds)
end
/-- the value, its own address left open -/
def RpT (K : PySem.W.Frag) (H : Hp) (S : Addr → Prop) (v : V) : D → Prop
  | .lst ds => ∃ a vs, v = .ref a ∧ H a = some (.lst vs) ∧ RpAll K H S vs ds
  | .dic ks ds => ∃ a kvs, v = .ref a ∧ H a = some (.dK kvs) ∧ kvs.map (·.1) = ks.map kyK ∧ RpAll K H S (kvs.map (·.2)) ds
  | d => Rp K H S v d
/-- a slot's own list or dict stands at a -/
def OwnR (K : PySem.W.Frag) (H : Hp) (S : Addr → Prop) (a : Addr) : D → Prop
  | .lst ds => ∃ vs, H a = some (.lst vs) ∧ RpAll K H S vs ds
  | .dic ks ds => ∃ kvs, H a = some (.dK kvs) ∧ kvs.map (·.1) = ks.map kyK ∧ RpAll K H S (kvs.map (·.2)) ds
  | _ => False

/-- what was tracked stands as it was; tables of code objects may grow -/
structure Ext (T : List (Addr × Str)) (H H' : Hp) : Prop where
  n : LamX.ExtN H H'
  f : ∀ b, H' b = none → H b = none
  t : LamX.Tabs T H → LamX.Tabs T H'
section
variable {K : PySem.W.Frag} {H H' H1 H2 : Hp} {S S' : Addr → Prop} {T : List (Addr × Str)}
theorem Ext.refl : Ext T H H := ⟨LamX.ExtN.refl H, fun _ => id, id⟩
theorem Ext.trans (a : Ext T H H1) (b : Ext T H1 H2) : Ext T H H2 := ⟨a.n.trans b.n, fun x z => a.f x (b.f x z), fun t => b.t (a.t t)⟩
theorem Ext.of (e : ∀ b o, H b = some o → H' b = some o) : Ext T H H' where
  n := LamX.ExtN.of e
  f := fun b z => by
    cases q : H b with
    | none => rfl
    | some o =>
      rw [e b o q] at z
      cases z
  t := fun t => LamX.Tabs.ext t e
/-- a new object -/
theorem Ext.new {p : Addr} {o : HO} (h : H p = none) : Ext T H (upd H p o) := .of fun b u e => by
  rw [upd_ne (ne_of_none e h)]
  exact e
theorem ext_fzl {a : Addr} {vs : List V} (e : LamX.ExtN H H') (h : Fzl K H a vs) : Fzl K H' a vs := by
  rcases h with ⟨o, h⟩ | h
  · exact .inl ⟨o, e _ _ h fun ps z => by cases z⟩
  · exact .inr h
theorem ext_lst {a : Addr} {vs : List V} (e : LamX.ExtN H H') (h : H a = some (.lst vs)) : H' a = some (.lst vs) := e _ _ h fun ps z => by cases z
theorem ext_dic {a : Addr} {kvs : List (Key × V)} (e : LamX.ExtN H H') (h : H a = some (.dK kvs)) : H' a = some (.dK kvs) := e _ _ h fun ps z => by cases z
theorem ext_frz {a : Addr} {o : Obj} {u : HO} (e : LamX.ExtN H H') (h : H a = some (.frz o u)) : H' a = some (.frz o u) := e _ _ h fun ps z => by cases z
theorem ext_seqT {a : Addr} {vs : List V} (e : LamX.ExtN H H') (h : SqT K H a vs) : SqT K H' a vs := by
  rcases h with (h | ⟨o, h⟩) | h
  · exact .inl (.inl (e _ _ h fun ps z => by cases z))
  · exact .inl (.inr ⟨o, e _ _ h fun ps z => by cases z⟩)
  · exact .inr h
mutual
theorem Rp.ext (e : LamX.ExtN H H') {v : V} {d : D} : Rp K H S v d → Rp K H' S v d
  | .non => .non
  | .bl b => .bl b
  | .int i => .int i
  | .str x => .str x
  | .lst n q r => .lst n (ext_lst e q) (RpAll.ext e r)
  | .fzl q r => .fzl (ext_fzl e q) (RpAll.ext e r)
  | .fzd q k r => .fzd (ext_frz e q) k (RpAll.ext e r)
  | .tup q r => .tup (ext_seqT e q) (RpAll.ext e r)
  | .dic n q k r => .dic n (ext_dic e q) k (RpAll.ext e r)
theorem RpAll.ext (e : LamX.ExtN H H') {vs : List V} {ds : List D} : RpAll K H S vs ds → RpAll K H' S vs ds
  | .nil => .nil
  | .cons r q => .cons (Rp.ext e r) (RpAll.ext e q)
end
mutual
theorem Rp.weak (h : ∀ a, S' a → S a) {v : V} {d : D} : Rp K H S v d → Rp K H S' v d
  | .non => .non
  | .bl b => .bl b
  | .int i => .int i
  | .str x => .str x
  | .lst n q r => .lst (fun z => n (h _ z)) q (RpAll.weak h r)
  | .fzl q r => .fzl q (RpAll.weak h r)
  | .fzd q k r => .fzd q k (RpAll.weak h r)
  | .tup q r => .tup q (RpAll.weak h r)
  | .dic n q k r => .dic (fun z => n (h _ z)) q k (RpAll.weak h r)
theorem RpAll.weak (h : ∀ a, S' a → S a) {vs : List V} {ds : List D} : RpAll K H S vs ds → RpAll K H S' vs ds
  | .nil => .nil
  | .cons r q => .cons (Rp.weak h r) (RpAll.weak h q)
end
/-- a list or a dict that nobody else may hold is changed -/
def isMut : HO → Prop
  | .lst _ => True
  | .dK _ => True
  | _ => False
theorem wr_fzl {a b : Addr} {o u : HO} {vs : List V} (ha : H a = some u) (hm : isMut u) (h : Fzl K H b vs) : Fzl K (upd H a o) b vs := by
  rcases h with ⟨o', h⟩ | h
  · have hb : b ≠ a := fun z => by
      rw [z, ha] at h
      cases h
      exact hm
    exact .inl ⟨o', by rw [upd_ne hb]; exact h⟩
  · exact .inr h
theorem ne_frz {a b : Addr} {o : Obj} {u w : HO} (ha : H a = some u) (hm : isMut u) (h : H b = some (.frz o w)) : b ≠ a := fun z => by
  rw [z, ha] at h
  cases h
  exact hm
theorem wr_seqT {a b : Addr} {o u : HO} {vs : List V} (ha : H a = some u) (hm : isMut u) (h : SqT K H b vs) : SqT K (upd H a o) b vs := by
  have ne : ∀ w : HO, H b = some w → ¬ isMut w → b ≠ a := fun w e nm z => by
    rw [z, ha] at e
    cases e
    exact nm hm
  rcases h with (h | ⟨u, h⟩) | h
  · exact .inl (.inl (by rw [upd_ne (ne _ h fun z => z)]; exact h))
  · exact .inl (.inr ⟨u, by rw [upd_ne (ne _ h fun z => z)]; exact h⟩)
  · exact .inr h
mutual
theorem Rp.wr {a : Addr} {o u : HO} (hS : S a) (ha : H a = some u) (hm : isMut u) {v : V} {d : D} : Rp K H S v d → Rp K (upd H a o) S v d
  | .non => .non
  | .bl b => .bl b
  | .int i => .int i
  | .str x => .str x
  | .lst n q r => .lst n (by rw [upd_ne (fun z => n (by rw [z]; exact hS))]; exact q) (RpAll.wr hS ha hm r)
  | .fzl q r => .fzl (wr_fzl ha hm q) (RpAll.wr hS ha hm r)
  | .fzd q k r => .fzd (by rw [upd_ne (ne_frz ha hm q)]; exact q) k (RpAll.wr hS ha hm r)
  | .tup q r => .tup (wr_seqT ha hm q) (RpAll.wr hS ha hm r)
  | .dic n q k r => .dic n (by rw [upd_ne (fun z => n (by rw [z]; exact hS))]; exact q) k (RpAll.wr hS ha hm r)
theorem RpAll.wr {a : Addr} {o u : HO} (hS : S a) (ha : H a = some u) (hm : isMut u) {vs : List V} {ds : List D} : RpAll K H S vs ds → RpAll K (upd H a o) S vs ds
  | .nil => .nil
  | .cons r q => .cons (Rp.wr hS ha hm r) (RpAll.wr hS ha hm q)
end
theorem RpAll.length : ∀ {vs : List V} {ds : List D}, RpAll K H S vs ds → vs.length = ds.length
  | _, _, .nil => rfl
  | _, _, .cons _ q => by rw [List.length_cons, List.length_cons, RpAll.length q]
theorem RpAll.get : ∀ {vs : List V} {ds : List D} {i : Nat} {d : D}, RpAll K H S vs ds → ds[i]? = some d → ∃ v, vs[i]? = some v ∧ Rp K H S v d
  | _, _, _, _, .nil, e => by simp at e
  | _, _, 0, _, .cons r _, e => by
    simp at e
    subst e
    exact ⟨_, rfl, r⟩
  | _, _, i + 1, d, .cons _ q, e => by
    obtain ⟨v, h1, h2⟩ := RpAll.get (i := i) (d := d) q (by simpa using e)
    exact ⟨v, by simpa using h1, h2⟩
theorem RpAll.append : ∀ {vs ws : List V} {ds es : List D}, RpAll K H S vs ds → RpAll K H S ws es → RpAll K H S (vs ++ ws) (ds ++ es)
  | _, _, _, _, .nil, q => q
  | _, _, _, _, .cons r t, q => .cons r (RpAll.append t q)
theorem RpAll.take : ∀ {vs : List V} {ds : List D} (n : Nat), RpAll K H S vs ds → RpAll K H S (vs.take n) (ds.take n)
  | _, _, 0, _ => .nil
  | _, _, _ + 1, .nil => .nil
  | _, _, n + 1, .cons r t => .cons r (RpAll.take n t)
theorem RpAll.drop : ∀ {vs : List V} {ds : List D} (n : Nat), RpAll K H S vs ds → RpAll K H S (vs.drop n) (ds.drop n)
  | _, _, 0, r => r
  | _, _, _ + 1, .nil => .nil
  | _, _, n + 1, .cons _ t => RpAll.drop n t
theorem RpAll.reverse : ∀ {vs : List V} {ds : List D}, RpAll K H S vs ds → RpAll K H S vs.reverse ds.reverse
  | _, _, .nil => .nil
  | _, _, .cons r t => by
    rw [List.reverse_cons, List.reverse_cons]
    exact (RpAll.reverse t).append (.cons r .nil)
theorem RpAll.set {v : V} {d : D} (r : Rp K H S v d) : ∀ {vs : List V} {ds : List D} (i : Nat), RpAll K H S vs ds → RpAll K H S (vs.set i v) (ds.set i d)
  | _, _, _, .nil => .nil
  | _, _, 0, .cons _ t => .cons r t
  | _, _, i + 1, .cons q t => .cons q (RpAll.set r i t)
theorem RpAll.replL : ∀ {vs : List V} {ds : List D} (n : Nat), RpAll K H S vs ds → RpAll K H S (repl n vs) (repl n ds)
  | _, _, 0, _ => .nil
  | _, _, n + 1, r => RpAll.append r (RpAll.replL n r)
theorem Rp.t {v : V} {d : D} (r : Rp K H S v d) : RpT K H S v d := by
  cases d with
  | lst ds => cases r with | lst n q r => exact ⟨_, _, rfl, q, r⟩
  | dic ks ds => cases r with | dic n q k r => exact ⟨_, _, rfl, q, k, r⟩
  | _ => exact r
theorem RpT.ext (e : LamX.ExtN H H') {v : V} {d : D} (r : RpT K H S v d) : RpT K H' S v d := by
  cases d with
  | lst ds => obtain ⟨a, vs, ev, q, r⟩ := r; exact ⟨a, vs, ev, ext_lst e q, r.ext e⟩
  | dic ks ds => obtain ⟨a, kvs, ev, q, k, r⟩ := r; exact ⟨a, kvs, ev, ext_dic e q, k, r.ext e⟩
  | _ => exact Rp.ext e r
theorem RpT.weak (h : ∀ a, S' a → S a) {v : V} {d : D} (r : RpT K H S v d) : RpT K H S' v d := by
  cases d with
  | lst ds => obtain ⟨a, vs, ev, q, r⟩ := r; exact ⟨a, vs, ev, q, r.weak h⟩
  | dic ks ds => obtain ⟨a, kvs, ev, q, k, r⟩ := r; exact ⟨a, kvs, ev, q, k, r.weak h⟩
  | _ => exact Rp.weak h r
theorem OwnR.ext (e : LamX.ExtN H H') {a : Addr} {d : D} (r : OwnR K H S a d) : OwnR K H' S a d := by
  cases d with
  | lst ds => obtain ⟨vs, q, r⟩ := r; exact ⟨vs, e _ _ q (fun ps z => by cases z), r.ext e⟩
  | dic ks ds => obtain ⟨kvs, q, k, r⟩ := r; exact ⟨kvs, e _ _ q (fun ps z => by cases z), k, r.ext e⟩
  | _ => exact r.elim
theorem OwnR.weak (h : ∀ a, S' a → S a) {a : Addr} {d : D} (r : OwnR K H S a d) : OwnR K H S' a d := by
  cases d with
  | lst ds => obtain ⟨vs, q, r⟩ := r; exact ⟨vs, q, r.weak h⟩
  | dic ks ds => obtain ⟨kvs, q, k, r⟩ := r; exact ⟨kvs, q, k, r.weak h⟩
  | _ => exact r.elim
theorem OwnR.t {a : Addr} {d : D} (r : OwnR K H S a d) : RpT K H S (.ref a) d := by
  cases d with
  | lst ds => obtain ⟨vs, q, r⟩ := r; exact ⟨a, vs, rfl, q, r⟩
  | dic ks ds => obtain ⟨kvs, q, k, r⟩ := r; exact ⟨a, kvs, rfl, q, k, r⟩
  | _ => exact r.elim
theorem OwnR.rp {a : Addr} {d : D} (r : OwnR K H S a d) (n : ¬ S a) : Rp K H S (.ref a) d := by
  cases d with
  | lst ds => obtain ⟨vs, q, r⟩ := r; exact .lst n q r
  | dic ks ds => obtain ⟨kvs, q, k, r⟩ := r; exact .dic n q k r
  | _ => exact r.elim
theorem OwnR.mut {a : Addr} {d : D} (r : OwnR K H S a d) : ∃ o, H a = some o ∧ isMut o := by
  cases d with
  | lst ds => obtain ⟨vs, q, r⟩ := r; exact ⟨_, q, trivial⟩
  | dic ks ds => obtain ⟨kvs, q, k, r⟩ := r; exact ⟨_, q, trivial⟩
  | _ => exact r.elim
theorem OwnR.wr {a b : Addr} {o u : HO} (hS : S a) (ha : H a = some u) (hm : isMut u) (hb : b ≠ a) {d : D} (r : OwnR K H S b d) : OwnR K (upd H a o) S b d := by
  cases d with
  | lst ds => obtain ⟨vs, q, r⟩ := r; exact ⟨vs, by rw [upd_ne hb]; exact q, r.wr hS ha hm⟩
  | dic ks ds => obtain ⟨kvs, q, k, r⟩ := r; exact ⟨kvs, by rw [upd_ne hb]; exact q, k, r.wr hS ha hm⟩
  | _ => exact r.elim
end

/-! ### the slots -/
/-- what stands fast in a law: program, world, written part, module's names, tables, the addresses of exception classes -/
structure Cfg where
  P : Program
  w : World
  K : PySem.W.Frag
  mg : Str → Option Value
  base : Heap
  T : List (Addr × Str)
  xc : Nat → Addr
def SlR (c : Cfg) (H₀ : Hp) (S : Addr → Prop) (H : Hp) : SV → V → Prop
  | .sh d, v => Rp c.K H S v d
  | .own d, v => ∃ a : Addr, v = V.ref a ∧ S a ∧ H₀ a = none ∧ OwnR c.K H S a d
structure EnvR (c : Cfg) (A : Addr → Prop) (H₀ : Hp) (S : Addr → Prop) (G : List (V × D)) (σ : L2.St) (H : Hp) (ρ : Env) : Prop where
  len : σ.length = ρ.length
  sl : ∀ (i : Nat) (x : SV), ρ[i]? = some (some x) → ∃ v, σ[i]? = some (some v) ∧ SlR c H₀ S H x v
  ap : ∀ (i j : Nat) (d e : D) (a : Addr), ρ[i]? = some (some (.own d)) → ρ[j]? = some (some (.own e)) → σ[i]? = some (some (V.ref a)) → σ[j]? = some (some (V.ref a)) → i = j
  hS : ∀ a, S a → ∃ o, H a = some o ∧ ∀ ps, o ≠ .tbl ps
  hA : ∀ a, A a → S a ∧ H₀ a ≠ none
  gh : ∀ p ∈ G, Rp c.K H S p.1 p.2
  e0 : Ext c.T H₀ H
  tb : LamX.Tabs c.T H
section
variable {c : Cfg} {A : Addr → Prop} {H₀ H H' : Hp} {S S' : Addr → Prop} {G : List (V × D)} {σ : L2.St} {ρ : Env}
theorem SlR.ext (e : LamX.ExtN H H') {x : SV} {v : V} (r : SlR c H₀ S H x v) : SlR c H₀ S H' x v := by
  cases x with
  | sh d => exact Rp.ext e r
  | own d => obtain ⟨a, e1, s, n, r⟩ := r; exact ⟨a, e1, s, n, r.ext e⟩
theorem EnvR.ext (E : EnvR c A H₀ S G σ H ρ) (e : Ext c.T H H') : EnvR c A H₀ S G σ H' ρ where
  len := E.len
  sl := fun i x h => let ⟨v, h1, h2⟩ := E.sl i x h; ⟨v, h1, h2.ext e.n⟩
  ap := E.ap
  hS := fun a h => let ⟨o, h1, h2⟩ := E.hS a h; ⟨o, e.n _ _ h1 h2, h2⟩
  hA := E.hA
  gh := fun p h => (E.gh p h).ext e.n
  e0 := E.e0.trans e
  tb := e.t E.tb
/-- a new address is none of those to be shunned -/
theorem EnvR.new (E : EnvR c A H₀ S G σ H ρ) {p : Addr} (h : H p = none) : ¬ S p := fun z => by
  obtain ⟨o, e, _⟩ := E.hS p z
  rw [h] at e
  cases e
theorem EnvR.unghost {g : List (V × D)} (E : EnvR c A H₀ S (g ++ G) σ H ρ) : EnvR c A H₀ S G σ H ρ :=
  ⟨E.len, E.sl, E.ap, E.hS, E.hA, fun p h => E.gh p (List.mem_append_right _ h), E.e0, E.tb⟩
theorem EnvR.ghost {g : List (V × D)} (E : EnvR c A H₀ S G σ H ρ) (h : ∀ p ∈ g, Rp c.K H S p.1 p.2) : EnvR c A H₀ S (g ++ G) σ H ρ :=
  ⟨E.len, E.sl, E.ap, E.hS, E.hA, fun p q => (List.mem_append.mp q).elim (h p) (E.gh p), E.e0, E.tb⟩
/-- a value is stored in a slot -/
theorem EnvR.set (E : EnvR c A H₀ S G σ H ρ) {i : Nat} {v : V} {d : D} (r : Rp c.K H S v d) : EnvR c A H₀ S G (σ.set i (some v)) H (ρ.set i (some (.sh d))) where
  len := by rw [List.length_set, List.length_set]; exact E.len
  sl := fun j x h => by
    by_cases e : i = j
    · subst e
      have hl : i < ρ.length := by
        have := (List.getElem?_eq_some_iff.mp h).1
        rwa [List.length_set] at this
      rw [List.getElem?_set_self hl] at h
      cases h
      exact ⟨v, by rw [List.getElem?_set_self (by rw [E.len]; exact hl)], r⟩
    · rw [List.getElem?_set_ne e] at h ⊢
      exact E.sl j x h
  ap := fun j k d1 d2 a h1 h2 h3 h4 => by
    have nj : ∀ {j : Nat} {d' : D}, (ρ.set i (some (.sh d)))[j]? = some (some (.own d')) → i ≠ j := fun {j d'} h e => by
      subst e
      have hl : i < ρ.length := by
        have := (List.getElem?_eq_some_iff.mp h).1
        rwa [List.length_set] at this
      rw [List.getElem?_set_self hl] at h
      cases h
    have n1 := nj h1
    have n2 := nj h2
    rw [List.getElem?_set_ne n1] at h1 h3
    rw [List.getElem?_set_ne n2] at h2 h4
    exact E.ap j k d1 d2 a h1 h2 h3 h4
  hS := E.hS
  hA := E.hA
  gh := E.gh
  e0 := E.e0
  tb := E.tb
/-- a slot's address is known by its own -/
theorem EnvR.own (E : EnvR c A H₀ S G σ H ρ) {i : Nat} {d : D} (h : ρ[i]? = some (some (.own d))) : ∃ a, σ[i]? = some (some (V.ref a)) ∧ S a ∧ H₀ a = none ∧ OwnR c.K H S a d := by
  obtain ⟨v, h1, a, ev, h2, h3, h4⟩ := E.sl i _ h
  subst ev
  exact ⟨a, h1, h2, h3, h4⟩
/-- what is new here was new at the start -/
theorem EnvR.new0 (E : EnvR c A H₀ S G σ H ρ) {a : Addr} (h : H a = none) : H₀ a = none := E.e0.f a h
theorem get_set {α : Type} {l : List α} {i j : Nat} {x y : α} (h : (l.set i x)[j]? = some y) : (i = j ∧ i < l.length ∧ y = x) ∨ (i ≠ j ∧ l[j]? = some y) := by
  by_cases e : i = j
  · subst e
    have hl : i < l.length := by
      have := (List.getElem?_eq_some_iff.mp h).1
      rwa [List.length_set] at this
    rw [List.getElem?_set_self hl] at h
    exact .inl ⟨rfl, hl, (Option.some.inj h).symm⟩
  · rw [List.getElem?_set_ne e] at h
    exact .inr ⟨e, h⟩
/-! more is to be shunned: it is new -/
theorem rd_new {H : Hp} {a b : Addr} {u : HO} (hn : H a = none) (e : b = a) (q : H b = some u) : False := by
  rw [e, hn] at q
  cases q
mutual
theorem Rp.more {K : PySem.W.Frag} {S : Addr → Prop} {a : Addr} (hn : H a = none) {v : V} {d : D} : Rp K H S v d → Rp K H (fun b => S b ∨ b = a) v d
  | .non => .non
  | .bl b => .bl b
  | .int i => .int i
  | .str x => .str x
  | .lst n q r => .lst (fun z => z.elim n fun e => rd_new hn e q) q (RpAll.more hn r)
  | .fzl q r => .fzl q (RpAll.more hn r)
  | .fzd q k r => .fzd q k (RpAll.more hn r)
  | .tup q r => .tup q (RpAll.more hn r)
  | .dic (a := b) n q k r => .dic (fun z => z.elim n fun e => rd_new hn e q) q k (RpAll.more hn r)
theorem RpAll.more {K : PySem.W.Frag} {S : Addr → Prop} {a : Addr} (hn : H a = none) {vs : List V} {ds : List D} : RpAll K H S vs ds → RpAll K H (fun b => S b ∨ b = a) vs ds
  | .nil => .nil
  | .cons r q => .cons (Rp.more hn r) (RpAll.more hn q)
end

theorem OwnR.more {K : PySem.W.Frag} {S : Addr → Prop} {H : Hp} {a b : Addr} (hn : H a = none) {d : D} (r : OwnR K H S b d) : OwnR K H (fun x => S x ∨ x = a) b d := by
  cases d with
  | lst ds => obtain ⟨vs, q, r⟩ := r; exact ⟨vs, q, r.more hn⟩
  | dic ks ds => obtain ⟨kvs, q, k, r⟩ := r; exact ⟨kvs, q, k, r.more hn⟩
  | _ => exact r.elim
theorem SlR.more {c : Cfg} {H₀ H H' : Hp} {S : Addr → Prop} {a : Addr} (hn : H a = none) (e : LamX.ExtN H H') {x : SV} {v : V} (r : SlR c H₀ S H x v) : SlR c H₀ (fun b => S b ∨ b = a) H' x v := by
  cases x with
  | sh d => exact (Rp.more hn r).ext e
  | own d => obtain ⟨b, e1, s, n, r⟩ := r; exact ⟨b, e1, .inl s, n, (r.more hn).ext e⟩
theorem OwnR.is {K : PySem.W.Frag} {H : Hp} {S : Addr → Prop} {a : Addr} {d : D} (r : OwnR K H S a d) : ∃ o, H a = some o ∧ ∀ ps, o ≠ .tbl ps := by
  obtain ⟨o, h, m⟩ := r.mut
  exact ⟨o, h, fun ps z => by rw [z] at m; exact m⟩
/-- a new list (dict) is stored in a slot, as its own -/
theorem EnvR.setO {c : Cfg} {A : Addr → Prop} {H₀ H H' : Hp} {S : Addr → Prop} {G : List (V × D)} {σ : L2.St} {ρ : Env} (E : EnvR c A H₀ S G σ H ρ) (e : Ext c.T H H') {i : Nat} {a : Addr} {d : D} (hn : H a = none) (r : OwnR c.K H' (fun b => S b ∨ b = a) a d) (hi : i < ρ.length) :
    EnvR c A H₀ (fun b => S b ∨ b = a) G (σ.set i (some (V.ref a))) H' (ρ.set i (some (.own d))) where
  len := by rw [List.length_set, List.length_set]; exact E.len
  sl := fun j x h => by
    rcases get_set h with ⟨e1, _, e3⟩ | ⟨ne, h⟩
    · subst e1
      cases e3
      exact ⟨V.ref a, List.getElem?_set_self (by rw [E.len]; exact hi), a, rfl, .inr rfl, E.new0 hn, r⟩
    · obtain ⟨v, h1, h2⟩ := E.sl j x h
      exact ⟨v, by rw [List.getElem?_set_ne ne]; exact h1, h2.more hn e.n⟩
  ap := fun j k d1 d2 b h1 h2 h3 h4 => by
    have old : ∀ {j : Nat} {d' : D}, ρ[j]? = some (some (.own d')) → i ≠ j → (σ.set i (some (V.ref a)))[j]? = some (some (V.ref a)) → False := fun {j d'} h ne q => by
      rw [List.getElem?_set_ne ne] at q
      obtain ⟨b, h1, h2, _, _⟩ := E.own h
      rw [q] at h1
      cases h1
      exact E.new hn h2
    have here : b = a → ∀ {j : Nat} {d' : D}, (ρ.set i (some (.own d)))[j]? = some (some (.own d')) → (σ.set i (some (V.ref a)))[j]? = some (some (V.ref b)) → i = j := fun eb {j d'} h q => by
      rcases get_set h with ⟨e1, _, _⟩ | ⟨ne, h⟩
      · exact e1
      · rw [eb] at q
        exact (old h ne q).elim
    by_cases eb : b = a
    · exact (here eb h1 h3).symm.trans (here eb h2 h4)
    · have nj : ∀ {j : Nat}, (σ.set i (some (V.ref a)))[j]? = some (some (V.ref b)) → i ≠ j := fun {j} q e => by
        subst e
        rw [List.getElem?_set_self (by rw [E.len]; exact hi)] at q
        cases q
        exact eb rfl
      have n1 := nj h3
      have n2 := nj h4
      rw [List.getElem?_set_ne n1] at h1 h3
      rw [List.getElem?_set_ne n2] at h2 h4
      exact E.ap j k d1 d2 b h1 h2 h3 h4
  hS := fun b h => by
    rcases h with h | h
    · exact (E.ext e).hS b h
    · subst h
      exact r.is
  hA := fun b h => ⟨.inl (E.hA b h).1, (E.hA b h).2⟩
  gh := fun p h => ((E.gh p h).more hn).ext e.n
  e0 := E.e0.trans e
  tb := e.t E.tb
theorem tabs_wr {T : List (Addr × Str)} {H : Hp} {a : Addr} {o u : HO} (t : LamX.Tabs T H) (ha : H a = some u) (hm : isMut u) : LamX.Tabs T (upd H a o) := fun p hp => by
  obtain ⟨ps, h1, h2, h3⟩ := t p hp
  have ne : ∀ {b : Addr} {w : HO}, H b = some w → ¬ isMut w → b ≠ a := fun {b w} e nm z => by
    rw [z, ha] at e
    cases e
    exact nm hm
  refine ⟨ps, by rw [upd_ne (ne h1 fun z => z)]; exact h1, h2, fun pos cv hc => ?_⟩
  obtain ⟨c', e1, e2⟩ := h3 pos cv hc
  exact ⟨c', e1, by rw [upd_ne (ne e2 fun z => by unfold LamX.CodeO at z; exact z)]; exact e2⟩
/-- a slot's own list (dict) is changed -/
theorem EnvR.wr {c : Cfg} {A : Addr → Prop} {H₀ H : Hp} {S : Addr → Prop} {G : List (V × D)} {σ : L2.St} {ρ : Env} (E : EnvR c A H₀ S G σ H ρ) {i : Nat} {a : Addr} {d d' : D} {o : HO} (h : ρ[i]? = some (some (.own d))) (hs : σ[i]? = some (some (V.ref a)))
    (r : OwnR c.K (upd H a o) S a d') : EnvR c A H₀ S G σ (upd H a o) (ρ.set i (some (.own d'))) := by
  obtain ⟨a', h1, h2, h3, h4⟩ := E.own h
  rw [hs] at h1
  cases h1
  obtain ⟨u, hu, hm⟩ := h4.mut
  have hi : i < ρ.length := (List.getElem?_eq_some_iff.mp h).1
  refine ⟨by rw [List.length_set]; exact E.len, fun j x q => ?_, fun j k d1 d2 b q1 q2 q3 q4 => ?_, fun b q => ?_, E.hA, fun p q => (E.gh p q).wr h2 hu hm, ?_, tabs_wr E.tb hu hm⟩
  · rcases get_set q with ⟨e1, _, e3⟩ | ⟨ne, q⟩
    · subst e1
      cases e3
      exact ⟨V.ref a, hs, a, rfl, h2, h3, r⟩
    · obtain ⟨v, g1, g2⟩ := E.sl j x q
      refine ⟨v, g1, ?_⟩
      cases x with
      | sh d => exact Rp.wr h2 hu hm g2
      | own d2 =>
        obtain ⟨b, e1, s, n, r2⟩ := g2
        refine ⟨b, e1, s, n, r2.wr h2 hu hm fun z => ne ?_⟩
        subst e1
        rw [z] at g1
        exact E.ap i j d d2 a h q hs g1
  · have old : ∀ {j : Nat} {d1 : D}, (ρ.set i (some (.own d')))[j]? = some (some (.own d1)) → ∃ d2, ρ[j]? = some (some (.own d2)) := fun {j d1} q => by
      rcases get_set q with ⟨e1, _, _⟩ | ⟨_, q⟩
      · subst e1
        exact ⟨d, h⟩
      · exact ⟨_, q⟩
    obtain ⟨x1, w1⟩ := old q1
    obtain ⟨x2, w2⟩ := old q2
    exact E.ap j k x1 x2 b w1 w2 q3 q4
  · by_cases e : b = a
    · subst e
      exact r.is
    · rw [upd_ne e]
      exact E.hS b q
  · have E0 := E.e0
    have n0 : ∀ {b : Addr} {w : HO}, H₀ b = some w → b ≠ a := fun {b w} e z => by
      rw [z, h3] at e
      cases e
    refine ⟨fun b w e n => by rw [upd_ne (n0 e)]; exact E0.n b w e n, fun b z => ?_, fun t => tabs_wr (E0.t t) hu hm⟩
    by_cases e : b = a
    · rw [e]
      exact h3
    · rw [upd_ne e] at z
      exact E0.f b z
/-- from here on others may hold it -/
theorem EnvR.freeze {c : Cfg} {A : Addr → Prop} {H₀ H : Hp} {S : Addr → Prop} {G : List (V × D)} {σ : L2.St} {ρ : Env} (E : EnvR c A H₀ S G σ H ρ) {i : Nat} {d : D} (h : ρ[i]? = some (some (.own d))) :
    ∃ S', EnvR c A H₀ S' G σ H (ρ.set i (some (.sh d))) := by
  obtain ⟨a, h1, h2, h3, h4⟩ := E.own h
  have sub : ∀ b, (S b ∧ b ≠ a) → S b := fun b z => z.1
  refine ⟨fun b => S b ∧ b ≠ a, by rw [List.length_set]; exact E.len, fun j x q => ?_, fun j k d1 d2 b q1 q2 q3 q4 => ?_, fun b q => E.hS b q.1, fun b q => ⟨⟨(E.hA b q).1, fun z => (E.hA b q).2 (by rw [z]; exact h3)⟩, (E.hA b q).2⟩, fun p q => (E.gh p q).weak sub, E.e0, E.tb⟩
  · rcases get_set q with ⟨e1, _, e3⟩ | ⟨ne, q⟩
    · subst e1
      cases e3
      exact ⟨V.ref a, h1, (h4.weak sub).rp fun z => z.2 rfl⟩
    · obtain ⟨v, g1, g2⟩ := E.sl j x q
      refine ⟨v, g1, ?_⟩
      cases x with
      | sh d => exact Rp.weak sub g2
      | own d2 =>
        obtain ⟨b, e1, s, n, r2⟩ := g2
        refine ⟨b, e1, ⟨s, fun z => ne ?_⟩, n, r2.weak sub⟩
        subst e1
        rw [z] at g1
        exact E.ap i j d d2 a h q h1 g1
  · have old : ∀ {j : Nat} {d1 : D}, (ρ.set i (some (.sh d)))[j]? = some (some (.own d1)) → ρ[j]? = some (some (.own d1)) := fun {j d1} q => by
      rcases get_set q with ⟨e1, _, e3⟩ | ⟨_, q⟩
      · cases e3
      · exact q
    exact E.ap j k d1 d2 b (old q1) (old q2) q3 q4
end
end NB
end

section
set_option Elab.async false
set_option linter.all false
set_option maxRecDepth 100000
/-! NBRule1: expressions. -/
namespace NB
open PySem PySem.Spec PyProof.Rows L2

theorem takesN0 {X : Cx} : L2N.Takes X (fun _ _ _ _ => False) := fun u s' ⟨a, B, sI, pins, σ, H, cls, d, e, I, nb, up, sky, na, os, ag, w⟩ => w.elim
/-- a def's scope; where it makes lambdas: its code object, their name -/
structure Sco where
  s : Scope
  lam : Option (Addr × Str)
abbrev Sco.names (sc : Sco) : List (Str × NameKind) := sc.s.names
instance : Coe Sco Scope := ⟨Sco.s⟩
def rsc (scope : Scope) (sc : Sco) : Sco := ⟨relS scope sc.s, none⟩
/-- a context of the def with the names N, the scope sc -/
structure Good (c : Cfg) (N : List Str) (sc : Sco) (k : Nat) (X : Cx) : Prop where
  hP : X.prog = c.P
  hw : X.w = c.w
  hK : X.K = c.K
  hmg : X.mg = c.mg
  hb : X.base = c.base
  hN : X.N = N
  hsc : X.env.scope = sc
  nd : N.Nodup
  calm : X.calm = true
  room : Room k X.A
  lam : ∀ z, sc.lam = some z → X.env.code = .ref z.1 ∧ X.env.qual ++ "<lambda>" = z.2 ∧ ∀ x, X.fn x = true

section
variable {c : Cfg} {W : WX} {σ : L2.St} {H H1 : Hp} {S : Addr → Prop} {α β : Type}
def RX (c : Cfg) (W : WX) (σ : L2.St) (H : Hp) (k : Nat) : Prop := ∀ H', Ext c.T H H' → W (.ref (c.xc k)) none σ H'
/-- what is wanted of a value, of a value whose own address is left open, of a new list, of a test, of what is walked -/
def RD (c : Cfg) (S : Addr → Prop) (W : WX) (σ : L2.St) (H : Hp) (Q : VK) : Res D → Prop
  | .ok d => ∀ v H', Ext c.T H H' → Rp c.K H' S v d → Q v H'
  | .exc k => RX c W σ H k
  | .stuck => False
def RT (c : Cfg) (S : Addr → Prop) (W : WX) (σ : L2.St) (H : Hp) (Q : VK) : Res D → Prop
  | .ok d => ∀ v H', Ext c.T H H' → RpT c.K H' S v d → Q v H'
  | .exc k => RX c W σ H k
  | .stuck => False
def RF (c : Cfg) (S : Addr → Prop) (W : WX) (σ : L2.St) (H : Hp) (Q : VK) : Res D → Prop
  | .ok d => ∀ a H', H a = none → Ext c.T H H' → OwnR c.K H' (fun b => S b ∨ b = a) a d → Q (.ref a) H'
  | .exc k => RX c W σ H k
  | .stuck => False
def RB (c : Cfg) (W : WX) (σ : L2.St) (H : Hp) (Q : Bool → Hp → Prop) : Res Bool → Prop
  | .ok b => ∀ H', Ext c.T H H' → Q b H'
  | .exc k => RX c W σ H k
  | .stuck => False
def RA (c : Cfg) (S : Addr → Prop) (W : WX) (σ : L2.St) (H : Hp) (Q : List V → Hp → Prop) : Res (List D) → Prop
  | .ok ds => ∀ vs H', Ext c.T H H' → RpAll c.K H' S vs ds → Q vs H'
  | .exc k => RX c W σ H k
  | .stuck => False
def rdE (c : Cfg) (W : WX) (f : DE) : TE := fun σ H Q => ∃ A H₀ S G ρ, EnvR c A H₀ S G σ H ρ ∧ RD c S W σ H Q (f ρ)
def rdT (c : Cfg) (W : WX) (f : DE) : TE := fun σ H Q => ∃ A H₀ S G ρ, EnvR c A H₀ S G σ H ρ ∧ RT c S W σ H Q (f ρ)
def rdF (c : Cfg) (W : WX) (f : DE) : TE := fun σ H Q => ∃ A H₀ S G ρ, EnvR c A H₀ S G σ H ρ ∧ RF c S W σ H Q (f ρ)
def rdB (c : Cfg) (W : WX) (f : DT) : TT := fun σ H Q => ∃ A H₀ S G ρ, EnvR c A H₀ S G σ H ρ ∧ RB c W σ H Q (f ρ)
def rdA (c : Cfg) (W : WX) (fs : List DE) : TA := fun σ H Q => ∃ A H₀ S G ρ, EnvR c A H₀ S G σ H ρ ∧ RA c S W σ H Q (args fs ρ)
theorem RX.ext {k : Nat} (e : Ext c.T H H1) (h : RX c W σ H k) : RX c W σ H1 k := fun H' e' => h H' (e.trans e')
theorem RD.ext (e : Ext c.T H H1) {Q : VK} {r : Res D} (h : RD c S W σ H Q r) : RD c S W σ H1 Q r := by
  cases r with
  | ok d => exact fun v H' e' q => h v H' (e.trans e') q
  | exc k => exact RX.ext e h
  | stuck => exact h
theorem RT.ext (e : Ext c.T H H1) {Q : VK} {r : Res D} (h : RT c S W σ H Q r) : RT c S W σ H1 Q r := by
  cases r with
  | ok d => exact fun v H' e' q => h v H' (e.trans e') q
  | exc k => exact RX.ext e h
  | stuck => exact h
theorem RF.ext (e : Ext c.T H H1) {Q : VK} {r : Res D} (h : RF c S W σ H Q r) : RF c S W σ H1 Q r := by
  cases r with
  | ok d => exact fun a H' n e' q => h a H' (e.f a n) (e.trans e') q
  | exc k => exact RX.ext e h
  | stuck => exact h
theorem RB.ext (e : Ext c.T H H1) {Q : Bool → Hp → Prop} {r : Res Bool} (h : RB c W σ H Q r) : RB c W σ H1 Q r := by
  cases r with
  | ok d => exact fun H' e' => h H' (e.trans e')
  | exc k => exact RX.ext e h
  | stuck => exact h
theorem RA.ext (e : Ext c.T H H1) {Q : List V → Hp → Prop} {r : Res (List D)} (h : RA c S W σ H Q r) : RA c S W σ H1 Q r := by
  cases r with
  | ok d => exact fun v H' e' q => h v H' (e.trans e') q
  | exc k => exact RX.ext e h
  | stuck => exact h

/-! ### a part, then the rest -/
variable {A : Addr → Prop} {H₀ : Hp} {G : List (V × D)} {ρ : Env}
theorem rdT_bind {f : DE} {k : D → Res β} {Z : Res β → Prop} {R : VK} (E : EnvR c A H₀ S G σ H ρ) (h : Z ((f ρ).bind k)) (hx : ∀ j, Z (.exc j) → RX c W σ H j) (hs : ¬ Z .stuck)
    (hk : ∀ d v H1, Ext c.T H H1 → RpT c.K H1 S v d → EnvR c A H₀ S G σ H1 ρ → Z (k d) → R v H1) : rdT c W f σ H R := by
  refine ⟨A, H₀, S, G, ρ, E, ?_⟩
  cases q : f ρ with
  | ok d =>
    rw [q] at h
    exact fun v H1 e r => hk d v H1 e r (E.ext e) h
  | exc j =>
    rw [q] at h
    exact hx j h
  | stuck =>
    rw [q] at h
    exact hs h
theorem rdE_bind {f : DE} {k : D → Res β} {Z : Res β → Prop} {R : VK} (E : EnvR c A H₀ S G σ H ρ) (h : Z ((f ρ).bind k)) (hx : ∀ j, Z (.exc j) → RX c W σ H j) (hs : ¬ Z .stuck)
    (hk : ∀ d v H1, Ext c.T H H1 → Rp c.K H1 S v d → EnvR c A H₀ S G σ H1 ρ → Z (k d) → R v H1) : rdE c W f σ H R := by
  refine ⟨A, H₀, S, G, ρ, E, ?_⟩
  cases q : f ρ with
  | ok d =>
    rw [q] at h
    exact fun v H1 e r => hk d v H1 e r (E.ext e) h
  | exc j =>
    rw [q] at h
    exact hx j h
  | stuck =>
    rw [q] at h
    exact hs h
theorem rdB_bind {f : DT} {k : Bool → Res β} {Z : Res β → Prop} {R : Bool → Hp → Prop} (E : EnvR c A H₀ S G σ H ρ) (h : Z ((f ρ).bind k)) (hx : ∀ j, Z (.exc j) → RX c W σ H j) (hs : ¬ Z .stuck)
    (hk : ∀ b H1, Ext c.T H H1 → EnvR c A H₀ S G σ H1 ρ → Z (k b) → R b H1) : rdB c W f σ H R := by
  refine ⟨A, H₀, S, G, ρ, E, ?_⟩
  cases q : f ρ with
  | ok d =>
    rw [q] at h
    exact fun H1 e => hk d H1 e (E.ext e) h
  | exc j =>
    rw [q] at h
    exact hx j h
  | stuck =>
    rw [q] at h
    exact hs h
theorem rdA_bind {fs : List DE} {k : List D → Res β} {Z : Res β → Prop} {R : List V → Hp → Prop} (E : EnvR c A H₀ S G σ H ρ) (h : Z ((args fs ρ).bind k)) (hx : ∀ j, Z (.exc j) → RX c W σ H j) (hs : ¬ Z .stuck)
    (hk : ∀ ds vs H1, Ext c.T H H1 → RpAll c.K H1 S vs ds → EnvR c A H₀ S G σ H1 ρ → Z (k ds) → R vs H1) : rdA c W fs σ H R := by
  refine ⟨A, H₀, S, G, ρ, E, ?_⟩
  cases q : args fs ρ with
  | ok d =>
    rw [q] at h
    exact fun v H1 e r => hk d v H1 e r (E.ext e) h
  | exc j =>
    rw [q] at h
    exact hx j h
  | stuck =>
    rw [q] at h
    exact hs h
end

/-! ### the judgements -/
section
variable (c : Cfg) (N : List Str) (sc : Sco) (k : Nat)
def SE (e : Expr) (f : DE) : Prop := ∀ X W, Good c N sc k X → L2N.Takes X W → PE X e (rdE c W f)
def ST (e : Expr) (f : DE) : Prop := ∀ X W, Good c N sc k X → L2N.Takes X W → PE X e (rdT c W f)
def SF (e : Expr) (f : DE) : Prop := ∀ X W, Good c N sc k X → L2N.Takes X W → PE X e (rdF c W f)
def SB (e : Expr) (f : DT) : Prop := ∀ X W, Good c N sc k X → L2N.Takes X W → PT X e (rdB c W f)
/-- a test within and, or -/
def SWd (e : Expr) (f : DT) : Prop := ∀ X W, Good c N sc k X → L2N.Takes X W → PW X e (rdB c W f)
def SA (es : List Expr) (fs : List DE) : Prop := ∀ X W, Good c N sc k X → L2N.Takes X W → PA X es (rdA c W fs)
end
end NB
namespace L2
open PySem PySem.Spec PyProof.Rows
theorem PE.mono' {X : Cx} {e : Expr} {t t' : TE} (h : PE X e t) (m : ∀ σ H Q, t' σ H Q → t σ H Q) : PE X e t' := ⟨fun pins s σ H Q I q => h.run pins s σ H Q I (m σ H Q q)⟩
theorem PT.mono' {X : Cx} {e : Expr} {t t' : TT} (h : PT X e t) (m : ∀ σ H Q, t' σ H Q → t σ H Q) : PT X e t' := ⟨fun pins s σ H Q I q => h.run pins s σ H Q I (m σ H Q q)⟩
theorem PW.mono' {X : Cx} {e : Expr} {t t' : TT} (h : PW X e t) (m : ∀ σ H Q, t' σ H Q → t σ H Q) : PW X e t' := ⟨fun wh pins s σ H Q I q => h.run wh pins s σ H Q I (m σ H Q q)⟩
theorem PA.mono' {X : Cx} {e : List Expr} {t t' : TA} (h : PA X e t) (m : ∀ σ H Q, t' σ H Q → t σ H Q) : PA X e t' := ⟨fun pos pins s σ H Q I q => h.run pos pins s σ H Q I (m σ H Q q)⟩

end L2
namespace NB
open PySem PySem.Spec PyProof.Rows L2
section
variable {c : Cfg} {N : List Str} {sc : Sco} {k : Nat} {a b ex : Expr} {f g h : DE} {pos : Pos}
theorem SE.t (h : SE c N sc k ex f) : ST c N sc k ex f := fun X W g tk => (h X W g tk).mono' fun σ H Q ⟨A, H₀, S, G, ρ, E, r⟩ => ⟨A, H₀, S, G, ρ, E, by
  cases q : f ρ with
  | ok d =>
    rw [q] at r
    exact fun v H' e' y => r v H' e' y.t
  | exc k =>
    rw [q] at r
    exact r
  | stuck =>
    rw [q] at r
    exact r⟩
theorem SF.e (h : SF c N sc k ex f) : SE c N sc k ex f := fun X W g tk => (h X W g tk).mono' fun σ H Q ⟨A, H₀, S, G, ρ, E, r⟩ => ⟨A, H₀, S, G, ρ, E, by
  cases q : f ρ with
  | ok d =>
    rw [q] at r
    exact fun a H' n e' y => r (.ref a) H' e' ((y.weak fun b z => .inl z).rp fun z => E.new n z)
  | exc k =>
    rw [q] at r
    exact r
  | stuck =>
    rw [q] at r
    exact r⟩
theorem SF.t (h : SF c N sc k ex f) : ST c N sc k ex f := h.e.t

/-! ### names, constants -/
theorem se_var {i : Nat} {x : Str} (hN : N[i]? = some x := by rfl) (hv : Vis sc x := by first | exact Or.inl rfl | exact Or.inr (Or.inl rfl) | exact Or.inr (Or.inr rfl))
    (hd : (x == ("__debug__" : Str)) = false := by decide) (hcd : (x == ("__classdict__" : Str)) = false := by decide) : SE c N sc k (.Name x pos) (eVar i) := fun X W g tk =>
  (pe_var (i := i) (by rw [g.hN]; exact hN) (by rw [g.hsc]; exact hv) hd hcd).mono' fun σ H Q ⟨A, H₀, S, G, ρ, E, r⟩ => by
    unfold eVar at r
    split at r
    · rename_i d q
      obtain ⟨v, h1, h2⟩ := E.sl i _ q
      exact ⟨v, h1, r v H Ext.refl h2⟩
    · exact r.elim
theorem st_own {i : Nat} {x : Str} (hN : N[i]? = some x := by rfl) (hv : Vis sc x := by first | exact Or.inl rfl | exact Or.inr (Or.inl rfl) | exact Or.inr (Or.inr rfl))
    (hd : (x == ("__debug__" : Str)) = false := by decide) (hcd : (x == ("__classdict__" : Str)) = false := by decide) : ST c N sc k (.Name x pos) (eOwn i) := fun X W g tk =>
  (pe_var (i := i) (by rw [g.hN]; exact hN) (by rw [g.hsc]; exact hv) hd hcd).mono' fun σ H Q ⟨A, H₀, S, G, ρ, E, r⟩ => by
    unfold eOwn at r
    split at r
    · rename_i d q
      obtain ⟨v, h1, h2⟩ := E.sl i _ q
      exact ⟨v, h1, r v H Ext.refl (Rp.t h2)⟩
    · rename_i d q
      obtain ⟨p, h1, _, _, h2⟩ := E.own q
      exact ⟨_, h1, r _ H Ext.refl h2.t⟩
    · exact r.elim
theorem se_int {i j} : SE c N sc k (.Constant (.int i) j pos) (eC (.int i)) := fun X W g tk => pe_int.mono' fun σ H Q ⟨A, H₀, S, G, ρ, E, r⟩ => r _ H Ext.refl (.int i)
theorem se_bl {i j} : SE c N sc k (.Constant (.bool i) j pos) (eC (.bl i)) := fun X W g tk => pe_bl.mono' fun σ H Q ⟨A, H₀, S, G, ρ, E, r⟩ => r _ H Ext.refl (.bl i)
theorem se_non {j} : SE c N sc k (.Constant .none j pos) (eC .non) := fun X W g tk => pe_non.mono' fun σ H Q ⟨A, H₀, S, G, ρ, E, r⟩ => r _ H Ext.refl .non
theorem se_str {x : Str} {y : List Nat} {j} (hx : x = tx y := by rfl) : SE c N sc k (.Constant (.str x) j pos) (eC (.str y)) := fun X W g tk => pe_str.mono' fun σ H Q ⟨A, H₀, S, G, ρ, E, r⟩ => by
  subst hx
  exact r _ H Ext.refl (.str y)
/-- a global's name -/
theorem gl_of {X : Cx} (g : Good c N sc k X) {x : Str} (hg : sc.names.lookup x = some .globalImplicit) : Gl X x := by
  show X.env.scope.names.lookup x = some .globalImplicit
  rw [g.hsc]
  exact hg
/-- a constant of the module -/
theorem se_glob {x : Str} {v : V} {u : Value} {d : D} (hm : c.mg x = some u) (r : RelV v u) (hr : ∀ H S, Rp c.K H S v d) (hg : sc.names.lookup x = some .globalImplicit := by rfl)
    (hd : (x == ("__debug__" : Str)) = false := by decide) : SE c N sc k (.Name x pos) (eC d) := fun X W g tk =>
  (pe_glob (gl_of g hg) (by rw [g.hmg]; exact hm) r hd).mono' fun σ H Q ⟨A, H₀, S, G, ρ, E, q⟩ => q v H Ext.refl (hr H S)

/-! ### operators -/
/-- a rule of the library serves an operation on values -/
def Ops (c : Cfg) (r : R2) (op : D → D → Res D) : Prop :=
  ∀ S W σ H x y dx dy Q, (∀ a, S a → H a ≠ none) → RpT c.K H S x dx → RpT c.K H S y dy → RD c S W σ H Q (op dx dy) → r x y H Q
theorem EnvR.nS {A : Addr → Prop} {H₀ H : Hp} {S : Addr → Prop} {G : List (V × D)} {σ : L2.St} {ρ : Env} (E : EnvR c A H₀ S G σ H ρ) : ∀ a, S a → H a ≠ none := fun a h z => E.new z h
theorem tOp_of {r : R2} {op : D → D → Res D} (ho : Ops c r op) {W : WX} {σ : L2.St} {H : Hp} {Q : VK} (h : rdE c W (e2 op f g) σ H Q) : tOp r (rdT c W f) (rdT c W g) σ H Q := by
  obtain ⟨A, H₀, S, G, ρ, E, h⟩ := h
  refine rdT_bind E h (fun j z => z) (fun z => z) fun d v H1 e r1 E1 h1 => ?_
  refine rdT_bind (Z := RD c S W σ H Q) E1 h1 (fun j z => RX.ext e z) (fun z => z) fun d2 v2 H2 e2 r2 E2 h2 => ?_
  exact ho S W σ H2 v v2 d d2 Q E2.nS (r1.ext e2.n) r2 (h2.ext (e.trans e2))
theorem se_op {o : Operator} {r : R2} {op : D → D → Res D} (ho : ∀ X, Good c N sc k X → OpR X (binaryOp o) r) (hr : Ops c r op) (ha : ST c N sc k a f) (hb : ST c N sc k b g) : SE c N sc k (.BinOp a o b pos) (e2 op f g) := fun X W gd tk =>
  (pe_op (ho X gd) (ha X W gd tk) (hb X W gd tk)).mono' fun σ H Q q => tOp_of hr q
theorem se_cmp {o : CmpOp} {r : R2} {op : D → D → Res D} (ho : ∀ X, Good c N sc k X → OpR X (compareOp o) r) (hr : Ops c r op) (ha : ST c N sc k a f) (hb : ST c N sc k b g) (hm : behindInMarks o b = false := by with_unfolding_all rfl) : SE c N sc k (.Compare a [o] [b] pos) (e2 op f g) := fun X W gd tk =>
  (pe_cmpR (ho X gd) (ha X W gd tk) (hb X W gd tk) hm).mono' fun σ H Q q => tOp_of hr q
end
end NB
end

section
set_option Elab.async false
set_option linter.all false
set_option maxRecDepth 100000
/-! NBOps: operations on values. -/
namespace NB
open PySem PySem.Spec PyProof.Rows L2
section
variable {c : Cfg}
theorem two {K : PySem.W.Frag} {H : Hp} {S : Addr → Prop} {v : V} {i : Int} (r : RpT K H S v (.int i)) : v = .int i := by
  cases (show Rp K H S v (.int i) from r)
  rfl
theorem twoS {K : PySem.W.Frag} {H : Hp} {S : Addr → Prop} {v : V} {i : List Nat} (r : RpT K H S v (.str i)) : v = .str (tx i) := by
  cases (show Rp K H S v (.str i) from r)
  rfl
theorem twoB {K : PySem.W.Frag} {H : Hp} {S : Addr → Prop} {v : V} {i : Bool} (r : RpT K H S v (.bl i)) : v = .bl i := by
  cases (show Rp K H S v (.bl i) from r)
  rfl
theorem twoN {K : PySem.W.Frag} {H : Hp} {S : Addr → Prop} {v : V} (r : RpT K H S v .non) : v = .non := by
  cases (show Rp K H S v .non from r)
  rfl
theorem tx_app (x y : List Nat) : tx (x ++ y) = tx x ++ tx y := by
  show (⟨(x ++ y).toArray⟩ : Str) = ⟨x.toArray ++ y.toArray⟩
  rw [List.append_toArray]
theorem tx_len (x : List Nat) : (tx x).length = x.length := by
  show x.toArray.size = x.length
  rw [List.size_toArray]
theorem tx_inj {x y : List Nat} (h : tx x = tx y) : x = y := by
  have h1 : x.toArray = y.toArray := congrArg Str.cps h
  have h2 := congrArg Array.toList h1
  simpa using h2
theorem tx_cps (x : List Nat) : (tx x).cps.toList = x := by
  show x.toArray.toList = x
  simp
theorem line_eq : line = sizeLine := by rw [sizeLine_eq]

/-- two rules -/
def R2.or (r r' : R2) : R2 := fun x y H Q => r x y H Q ∨ r' x y H Q
/-- a new list, a new tuple as a value -/
theorem rp_newL {S : Addr → Prop} {H : Hp} {p : Addr} {vs : List V} {ds : List D} {W : WX} {σ : L2.St} {Q : VK} (nS : ∀ a, S a → H a ≠ none) (q : ∀ v H', Ext c.T H H' → Rp c.K H' S v (.lst ds) → Q v H') (hp : H p = none) (r : RpAll c.K H S vs ds) : Q (.ref p) (upd H p (.lst vs)) :=
  q _ _ (Ext.new hp) (.lst (fun z => nS p z hp) upd_same (r.ext (Ext.new (T := c.T) hp).n))
theorem rp_newT {S : Addr → Prop} {H : Hp} {p : Addr} {vs : List V} {ds : List D} {Q : VK} (q : ∀ v H', Ext c.T H H' → Rp c.K H' S v (.tup ds) → Q v H') (hp : H p = none) (r : RpAll c.K H S vs ds) : Q (.ref p) (upd H p (.tup vs)) :=
  q _ _ (Ext.new hp) (.tup (.inl (.inl upd_same)) (r.ext (Ext.new (T := c.T) hp).n))

def rAdd (c : Cfg) : R2 := R2.or (rI0 fun i j => .int (i + j)) (R2.or (fun x y H Q => ∃ i j, x = .str i ∧ y = .str j ∧ i.length + j.length ≤ sizeLine ∧ Q (.str (i ++ j)) H) (R2.or rCat (rCatA c.K)))
theorem or_add {N : List Str} {sc : Sco} {k : Nat} : ∀ X, Good c N sc k X → OpR X (binaryOp .Add) (rAdd c) := fun X g =>
  OpR.or op_add (OpR.or op_add_str (OpR.or op_cat (g.hK ▸ op_catA)))
theorem os_add : Ops c (rAdd c) dAdd := fun S W σ H x y dx dy Q nS rx ry h => by
  unfold dAdd at h
  split at h
  · exact .inl ⟨_, _, two rx, two ry, h _ H Ext.refl (.int _)⟩
  · rename_i i j
    split at h
    · rename_i hl
      refine .inr (.inl ⟨_, _, twoS rx, twoS ry, by rw [tx_len, tx_len]; exact hl, ?_⟩)
      rw [← tx_app]
      exact h _ H Ext.refl (.str _)
    · exact h.elim
  · rename_i i j
    split at h
    · rename_i hl
      obtain ⟨a, vs, rfl, ha, ra⟩ := rx
      obtain ⟨b, ws, rfl, hb, rb⟩ := ry
      refine .inr (.inr (.inl ⟨a, b, vs, ws, rfl, rfl, ha, hb, by rw [ra.length, rb.length]; exact hl, fun p hp => ?_⟩))
      exact rp_newL (W := W) (σ := σ) nS h hp (ra.append rb)
    · exact h.elim
  · rename_i i j
    split at h
    · rename_i hl
      cases (show Rp c.K H S x (.tup i) from rx) with
      | tup ha ra =>
        cases (show Rp c.K H S y (.tup j) from ry) with
        | tup hb rb =>
          rename_i a vs b ws
          refine .inr (.inr (.inr ⟨a, b, vs, ws, rfl, rfl, ha, hb, by rw [ra.length, rb.length]; exact hl, fun e => ?_, fun _ e => ?_, fun _ _ p hp => ?_⟩))
          · refine h _ H Ext.refl ?_
            subst e
            cases ra
            exact .tup hb rb
          · refine h _ H Ext.refl ?_
            subst e
            cases rb
            rw [List.append_nil]
            exact .tup ha ra
          · exact rp_newT h hp (ra.append rb)
    · exact h.elim
  · exact h.elim
theorem os_sub : Ops c (rI0 fun i j => .int (i - j)) dSub := fun S W σ H x y dx dy Q nS rx ry h => by
  unfold dSub at h
  split at h
  · exact ⟨_, _, two rx, two ry, h _ H Ext.refl (.int _)⟩
  · exact h.elim
def rRepS : R2 := fun x y H Q => ∃ (z : List Nat) (k : Int), x = .str (tx z) ∧ y = .int k ∧ -(2 ^ 63) ≤ k ∧ k < 2 ^ 63 ∧ z.length * k.toNat ≤ sizeLine ∧ Q (.str (tx (repl k.toNat z))) H
theorem repl_len {α : Type} (x : List α) : ∀ n, (repl n x).length = n * x.length
  | 0 => by simp [repl]
  | n + 1 => by
    show (x ++ repl n x).length = _
    rw [List.length_append, repl_len x n, Nat.succ_mul, Nat.add_comm]
theorem fold_rep (z : List Nat) : ∀ (n : Nat) (acc : Array Nat), (List.replicate n z.toArray).foldl (· ++ ·) acc = acc ++ (repl n z).toArray
  | 0, acc => by simp [repl]
  | n + 1, acc => by
    rw [List.replicate_succ, List.foldl_cons, fold_rep z n]
    simp [repl]
theorem op_repS {X : Cx} : OpR X (binaryOp .Mult) rRepS := by
  intro pins s σ H x y v u Q I rx ry h
  obtain ⟨z, k, rfl, rfl, h1, h2, hz, q⟩ := h
  obtain ⟨t, rfl⟩ := rx
  obtain ⟨t', rfl⟩ := ry
  have hs : sizeLine = 16777216 := sizeLine_eq
  have hl : (tx z).length = z.length := tx_len z
  refine PySem.P.mul_str (by rw [decide_eq_false (by omega), decide_eq_false (by omega)]; rfl) (fun n1 n2 hc => ?_) (fun n1 n2 => ?_) ?_
  · have k1 : 1 ≤ k := by omega
    have q1 : (z.length : Int) * k ≤ 16777216 := by
      have e : ((z.length * k.toNat : Nat) : Int) = (z.length : Int) * k := by
        rw [Int.natCast_mul, Int.toNat_of_nonneg (by omega)]
      omega
    have q2 : ((2 : Int) ^ 63 - 1) / k < z.length := by rw [← hl]; exact hc
    have q3 : (2 : Int) ^ 63 - 1 < z.length * k := Int.lt_mul_of_ediv_lt (by omega) q2
    omega
  · rw [hl]
    show decide (z.length * k.toNat > sizeLine) = false
    rw [decide_eq_false_iff_not]
    omega
  · by_cases n1 : k < 1
    · rw [if_pos n1]
      have e : k.toNat = 0 := by omega
      rw [e] at q
      exact ⟨by decide, .str (tx []), H, I.tok _, ⟨_, rfl⟩, q⟩
    · rw [if_neg n1]
      by_cases n2 : (k == 1 || (tx z).length == 0) = true
      · rw [if_pos n2]
        have e : repl k.toNat z = z := by
          rw [Bool.or_eq_true, beq_iff_eq, beq_iff_eq, hl] at n2
          rcases n2 with e | e
          · have e1 : k.toNat = 1 := by omega
            rw [e1]
            show z ++ repl 0 z = z
            rw [show repl 0 z = [] from rfl, List.append_nil]
          · have e1 : z = [] := List.length_eq_zero_iff.mp e
            subst e1
            have : ∀ n, repl n ([] : List Nat) = [] := fun n => by
              induction n with
              | zero => rfl
              | succ n ih => show [] ++ repl n [] = []; rw [ih]; rfl
            exact this _
        rw [e] at q
        exact ⟨.str (tx z), H, I, ⟨_, rfl⟩, q⟩
      · rw [if_neg n2]
        have e : (List.replicate k.toNat (tx z).cps).foldl (· ++ ·) #[] = (repl k.toNat z).toArray := by
          rw [show (tx z).cps = z.toArray from rfl, fold_rep]
          simp
        rw [e]
        exact ⟨by rw [show (⟨(repl k.toNat z).toArray⟩ : Str) = tx (repl k.toNat z) from rfl, tx_len, repl_len, Nat.mul_comm]; exact hz, .str (tx (repl k.toNat z)), H, I.tok _, ⟨_, rfl⟩, q⟩
def rMul : R2 := R2.or (rI CMul fun i j => .int (i * j)) (R2.or (rI CMulW fun i j => .int (i * j)) (R2.or rRep rRepS))
theorem or_mul {N : List Str} {sc : Sco} {k : Nat} : ∀ X, Good c N sc k X → OpR X (binaryOp .Mult) rMul := fun X g => OpR.or op_mul (OpR.or op_mulW (OpR.or op_rep op_repS))
theorem repl_flat {α : Type} (xs : List α) : ∀ n, (List.replicate n xs).flatten = repl n xs
  | 0 => rfl
  | n + 1 => by
    rw [List.replicate_succ, List.flatten_cons, repl_flat xs n]
    rfl
theorem os_mul : Ops c rMul dMul := fun S W σ H x y dx dy Q nS rx ry h => by
  unfold dMul at h
  split at h
  · rename_i i j
    split at h
    · rename_i hl
      have q := h _ H Ext.refl (.int (i * j))
      unfold mulOk at hl
      rw [Bool.or_eq_true, Bool.or_eq_true, decide_eq_true_eq, decide_eq_true_eq, decide_eq_true_eq] at hl
      have e64 : (2 : Int) ^ 64 = 18446744073709551616 := by decide
      rcases hl with (hl | hl) | hl
      · exact .inl ⟨i, j, two rx, two ry, .inl ⟨by omega, by omega⟩, q⟩
      · exact .inl ⟨i, j, two rx, two ry, .inr ⟨by omega, by omega⟩, q⟩
      · exact .inr (.inl ⟨i, j, two rx, two ry, hl, q⟩)
    · exact h.elim
  · rename_i xs j
    split at h
    · rename_i hl
      exact .inr (.inr (.inr ⟨xs, j, twoS rx, two ry, hl.2.1, hl.2.2, hl.1, h _ H Ext.refl (.str _)⟩))
    · exact h.elim
  · rename_i xs j
    split at h
    · rename_i hl
      obtain ⟨a, vs, rfl, ha, ra⟩ := rx
      refine .inr (.inr (.inl ⟨a, j, vs, rfl, two ry, ha, hl.2.1, hl.2.2, by rw [ra.length]; exact hl.1, fun p hp => ?_⟩))
      rw [repl_flat]
      exact rp_newL (W := W) (σ := σ) nS h hp (ra.replL _)
    · exact h.elim
  · exact h.elim
theorem or_div {N : List Str} {sc : Sco} {k : Nat} : ∀ X, Good c N sc k X → OpR X (binaryOp .FloorDiv) (rI CDivW fun i j => .int (i / j)) := fun X g => op_fdivW
theorem os_div : Ops c (rI CDivW fun i j => .int (i / j)) dDiv := fun S W σ H x y dx dy Q nS rx ry h => by
  unfold dDiv at h
  split at h
  · split at h
    · rename_i hl
      unfold divOk at hl
      rw [Bool.and_eq_true, decide_eq_true_eq, decide_eq_true_eq] at hl
      exact ⟨_, _, two rx, two ry, hl, h _ H Ext.refl (.int _)⟩
    · exact h.elim
  · exact h.elim
theorem os_mod : Ops c (rI (fun _ j => 0 < j) fun i j => .int (i % j)) dMod := fun S W σ H x y dx dy Q nS rx ry h => by
  unfold dMod at h
  split at h
  · split at h
    · rename_i hl
      exact ⟨_, _, two rx, two ry, hl, h _ H Ext.refl (.int _)⟩
    · exact h.elim
  · exact h.elim
theorem os_pow : Ops c (rI CPow fun i j => .int (i ^ j.toNat)) dPow := fun S W σ H x y dx dy Q nS rx ry h => by
  unfold dPow at h
  split at h
  · split at h
    · rename_i hl
      exact ⟨_, _, two rx, two ry, ⟨hl.1, hl.2.1, by have := hl.2.2; have e : (2 : Nat) ^ 64 = 18446744073709551616 := by decide
                                                     omega⟩, h _ H Ext.refl (.int _)⟩
    · exact h.elim
  · exact h.elim
theorem xor01 : ∀ {i j : Int}, (i = 0 ∨ i = 1) → (j = 0 ∨ j = 1) → Builtin.bitXor i j = if i = j then 0 else 1 := by
  intro i j hi hj
  rcases hi with rfl | rfl <;> rcases hj with rfl | rfl <;> decide +kernel
theorem os_xor : Ops c (rI0 fun i j => .int (Builtin.bitXor i j)) dXor := fun S W σ H x y dx dy Q nS rx ry h => by
  unfold dXor at h
  split at h
  · split at h
    · rename_i hl
      refine ⟨_, _, two rx, two ry, ?_⟩
      show Q (.int (Builtin.bitXor _ _)) H
      rw [xor01 hl.1 hl.2]
      exact h _ H Ext.refl (.int _)
    · exact h.elim
  · exact h.elim
end

/-! ### == -/
mutual
def toPy : D → PyData
  | .bl b => .bool b
  | .int i => .int i
  | .str x => .str (tx x)
  | .lst xs => .list (toPyAll xs)
  | .fzl xs => .list (toPyAll xs)
  | .tup xs => .tuple (toPyAll xs)
  | _ => .none
def toPyAll : List D → List PyData
  | [] => []
  | x :: xs => toPy x :: toPyAll xs
end
theorem strOk_of {x : List Nat} (h : (x.all fun c => decide (c < 1114112)) = true) : PyData.strOk (tx x) = true := by
  show (x.toArray.all (· < 0x110000)) = true
  rw [← Array.all_toList]
  simpa using h
mutual
theorem lay_ok : ∀ (n : Nat) (d : D), d.lay n = true → (toPy d).canLay0 = true ∧ (toPy d).depth ≤ n
  | n, .non, _ => ⟨rfl, Nat.zero_le _⟩
  | n, .bl b, _ => ⟨rfl, Nat.zero_le _⟩
  | n, .int i, _ => ⟨rfl, Nat.zero_le _⟩
  | n, .str x, h => ⟨strOk_of (by simpa [D.lay] using h), Nat.zero_le _⟩
  | 0, .lst xs, h => by simp [D.lay] at h
  | 0, .tup xs, h => by simp [D.lay] at h
  | n + 1, .lst xs, h => by
    have q := lay_okAll n xs (by simpa [D.lay] using h)
    simp only [toPy, PyData.canLay0, PyData.depth]
    exact ⟨q.1, by omega⟩
  | n + 1, .tup xs, h => by
    have q := lay_okAll n xs (by simpa [D.lay] using h)
    simp only [toPy, PyData.canLay0, PyData.depth]
    exact ⟨q.1, by omega⟩
  | 0, .dic _ _, h | n + 1, .dic _ _, h => by simp [D.lay] at h
  | 0, .exo _, h | n + 1, .exo _, h => by simp [D.lay] at h
  | 0, .clo _ _, h | n + 1, .clo _ _, h => by simp [D.lay] at h
  | 0, .fzl xs, h => by simp [D.lay] at h
  | n + 1, .fzl xs, h => by
    have q := lay_okAll n xs (by simpa [D.lay] using h)
    simp only [toPy, PyData.canLay0, PyData.depth]
    exact ⟨q.1, by omega⟩
  | 0, .fzd _ _, h | n + 1, .fzd _ _, h => by simp [D.lay] at h
theorem lay_okAll : ∀ (n : Nat) (ds : List D), D.layAll n ds = true → PyData.canLayAll0 (toPyAll ds) = true ∧ PyData.depthAll (toPyAll ds) ≤ n
  | n, [], _ => ⟨rfl, Nat.zero_le _⟩
  | n, d :: ds, h => by
    have h' : d.lay n = true ∧ D.layAll n ds = true := by simpa [D.layAll] using h
    have q1 := lay_ok n d h'.1
    have q2 := lay_okAll n ds h'.2
    simp only [toPyAll, PyData.canLayAll0, PyData.depthAll, Bool.and_eq_true]
    exact ⟨⟨q1.1, q2.1⟩, by omega⟩
end
theorem shaped_of {d : D} {n : Nat} (h : d.lay n = true) (hn : n ≤ 64) : SeqAt.shaped (toPy d) = true := by
  have q := lay_ok n d h
  show ((toPy d).canLay0 && decide ((toPy d).depth ≤ 64)) = true
  rw [Bool.and_eq_true, decide_eq_true_eq]
  exact ⟨q.1, Nat.le_trans q.2 hn⟩
mutual
theorem Rp.dp {K : PySem.W.Frag} {H : Hp} {S : Addr → Prop} : ∀ {n : Nat} {v : V} {d : D}, d.lay n = true → Rp K H S v d → Dp K H v (toPy d)
  | _, _, _, _, .non => by simp only [toPy]; exact .non
  | _, _, _, _, .bl b => by simp only [toPy]; exact .bl b
  | _, _, _, _, .int i => by simp only [toPy]; exact .int i
  | _, _, _, _, .str x => by simp only [toPy]; exact .str _
  | 0, _, _, h, .lst _ q r => by simp [D.lay] at h
  | n + 1, _, _, h, .lst _ q r => by
    simp only [toPy]
    exact .lst (.inl (.inl q)) (RpAll.dp (n := n) (by simpa [D.lay] using h) r)
  | 0, _, _, h, .tup q r => by simp [D.lay] at h
  | n + 1, _, _, h, .tup q r => by
    simp only [toPy]
    exact .tup q (RpAll.dp (n := n) (by simpa [D.lay] using h) r)
  | 0, _, _, h, .dic _ _ _ _ | n + 1, _, _, h, .dic _ _ _ _ => by simp [D.lay] at h
  | 0, _, _, h, .fzl _ _ => by simp [D.lay] at h
  | n + 1, _, _, h, .fzl q r => by
    simp only [toPy]
    exact .lst q.q (RpAll.dp (n := n) (by simpa [D.lay] using h) r)
  | 0, _, _, h, .fzd _ _ _ | n + 1, _, _, h, .fzd _ _ _ => by simp [D.lay] at h
theorem RpAll.dp {K : PySem.W.Frag} {H : Hp} {S : Addr → Prop} : ∀ {n : Nat} {vs : List V} {ds : List D}, D.layAll n ds = true → RpAll K H S vs ds → DpAll K H vs (toPyAll ds)
  | _, _, _, _, .nil => by simp only [toPyAll]; exact .nil
  | n, _, _, h, .cons r q => by
    have h' := by simpa [D.layAll] using h
    simp only [toPyAll]
    exact .cons (Rp.dp (n := n) h'.1 r) (RpAll.dp (n := n) h'.2 q)
end
theorem RpT.dp {K : PySem.W.Frag} {H : Hp} {S : Addr → Prop} {n : Nat} {v : V} {d : D} (h : d.lay n = true) (r : RpT K H S v d) : Dp K H v (toPy d) := by
  cases d with
  | lst ds =>
    obtain ⟨a, vs, rfl, q, r⟩ := r
    cases n with
    | zero => simp [D.lay] at h
    | succ n =>
      simp only [toPy]
      exact .lst (.inl (.inl q)) (RpAll.dp (n := n) (by simpa [D.lay] using h) r)
  | dic ks ds => cases n <;> simp [D.lay] at h
  | _ => exact Rp.dp h r
theorem tx_beq (x y : List Nat) : (tx x == tx y) = (x == y) := by
  by_cases h : x = y
  · subst h
    rw [beq_self_eq_true, beq_self_eq_true]
  · rw [beq_eq_false_iff_ne.mpr h, beq_eq_false_iff_ne.mpr fun z => h (tx_inj z)]
mutual
theorem eqv_ok : ∀ (n m : Nat) (x y : D), x.lay n = true → y.lay m = true → PyData.eqv (toPy x) (toPy y) = x.eqv y
  | n, m, x, y, hx, hy => by
    cases x with
    | lst xs =>
      cases n with
      | zero => simp [D.lay] at hx
      | succ n =>
        cases y with
        | lst ys =>
          cases m with
          | zero => simp [D.lay] at hy
          | succ m =>
            simp only [toPy, PyData.eqv, D.eqv]
            exact eqv_okAll n m xs ys (by simpa [D.lay] using hx) (by simpa [D.lay] using hy)
        | fzl ys =>
          cases m with
          | zero => simp [D.lay] at hy
          | succ m =>
            simp only [toPy, PyData.eqv, D.eqv]
            exact eqv_okAll n m xs ys (by simpa [D.lay] using hx) (by simpa [D.lay] using hy)
        | _ => cases m <;> simp [toPy, PyData.eqv, D.eqv]
    | fzl xs =>
      cases n with
      | zero => simp [D.lay] at hx
      | succ n =>
        cases y with
        | lst ys =>
          cases m with
          | zero => simp [D.lay] at hy
          | succ m =>
            simp only [toPy, PyData.eqv, D.eqv]
            exact eqv_okAll n m xs ys (by simpa [D.lay] using hx) (by simpa [D.lay] using hy)
        | fzl ys =>
          cases m with
          | zero => simp [D.lay] at hy
          | succ m =>
            simp only [toPy, PyData.eqv, D.eqv]
            exact eqv_okAll n m xs ys (by simpa [D.lay] using hx) (by simpa [D.lay] using hy)
        | _ => cases m <;> simp [toPy, PyData.eqv, D.eqv]
    | tup xs =>
      cases n with
      | zero => simp [D.lay] at hx
      | succ n =>
        cases y with
        | tup ys =>
          cases m with
          | zero => simp [D.lay] at hy
          | succ m =>
            simp only [toPy, PyData.eqv, D.eqv]
            exact eqv_okAll n m xs ys (by simpa [D.lay] using hx) (by simpa [D.lay] using hy)
        | _ => cases m <;> simp [toPy, PyData.eqv, D.eqv]
    | non =>
      cases y with
      | dic _ _ => cases m <;> simp [D.lay] at hy
      | exo _ => cases m <;> simp [D.lay] at hy
      | clo _ _ => cases m <;> simp [D.lay] at hy
      | fzd _ _ => cases m <;> simp [D.lay] at hy
      | _ => simp [toPy, PyData.eqv, D.eqv]
    | bl b =>
      cases y with
      | dic _ _ => cases m <;> simp [D.lay] at hy
      | exo _ => cases m <;> simp [D.lay] at hy
      | clo _ _ => cases m <;> simp [D.lay] at hy
      | fzd _ _ => cases m <;> simp [D.lay] at hy
      | _ => simp [toPy, PyData.eqv, D.eqv]
    | int b =>
      cases y with
      | dic _ _ => cases m <;> simp [D.lay] at hy
      | exo _ => cases m <;> simp [D.lay] at hy
      | clo _ _ => cases m <;> simp [D.lay] at hy
      | fzd _ _ => cases m <;> simp [D.lay] at hy
      | _ => simp [toPy, PyData.eqv, D.eqv]
    | str a =>
      cases y with
      | dic _ _ => cases m <;> simp [D.lay] at hy
      | exo _ => cases m <;> simp [D.lay] at hy
      | clo _ _ => cases m <;> simp [D.lay] at hy
      | fzd _ _ => cases m <;> simp [D.lay] at hy
      | str b =>
        simp only [toPy, PyData.eqv, D.eqv]
        exact tx_beq a b
      | _ => simp [toPy, PyData.eqv, D.eqv]
    | dic _ _ => cases n <;> simp [D.lay] at hx
    | exo _ => cases n <;> simp [D.lay] at hx
    | clo _ _ => cases n <;> simp [D.lay] at hx
    | fzd _ _ => cases n <;> simp [D.lay] at hx
theorem eqv_okAll : ∀ (n m : Nat) (xs ys : List D), D.layAll n xs = true → D.layAll m ys = true → PyData.eqvAll (toPyAll xs) (toPyAll ys) = D.eqvAll xs ys
  | n, m, [], [], _, _ => by simp only [toPyAll, PyData.eqvAll, D.eqvAll]
  | n, m, [], _ :: _, _, _ => by simp only [toPyAll, PyData.eqvAll, D.eqvAll]
  | n, m, _ :: _, [], _, _ => by simp only [toPyAll, PyData.eqvAll, D.eqvAll]
  | n, m, x :: xs, y :: ys, hx, hy => by
    have hx' : x.lay n = true ∧ D.layAll n xs = true := by simpa [D.layAll] using hx
    have hy' : y.lay m = true ∧ D.layAll m ys = true := by simpa [D.layAll] using hy
    simp only [toPyAll, PyData.eqvAll, D.eqvAll]
    rw [eqv_ok n m x y hx'.1 hy'.1, eqv_okAll n m xs ys hx'.2 hy'.2]
end
/-- the scalars that are compared -/
theorem scal_ok {K : PySem.W.Frag} {H : Hp} {S : Addr → Prop} {v u : V} {x y : D} (h : scalD x y = true) (r : RpT K H S v x) (q : RpT K H S u y) : scal v u = true ∧ decide (v = u) = x.eqv y := by
  have str_ok : ∀ a b : List Nat, decide (V.str (tx a) = V.str (tx b)) = (a == b) := fun a b => by
    by_cases e : a = b
    · subst e
      simp
    · rw [beq_eq_false_iff_ne.mpr e, decide_eq_false fun z => e (tx_inj (V.str.inj z))]
  cases x <;> cases y <;> first
    | (simp [scalD] at h; done)
    | (first | cases twoN r | cases two r | cases twoB r | cases twoS r
       first | cases twoN q | cases two q | cases twoB q | cases twoS q
       first
         | exact ⟨rfl, by simp only [D.eqv]; exact str_ok _ _⟩
         | exact ⟨rfl, by simp only [D.eqv]; exact dec_int⟩
         | exact ⟨rfl, by simp only [D.eqv]; exact dec_bl⟩
         | exact ⟨rfl, by simp [D.eqv]⟩)
section
variable {c : Cfg} {N : List Str} {sc : Sco} {k : Nat}
theorem units_of {X : Cx} (g : Good c N sc k X) : X.A.units + 64 < cLine := g.room.units
theorem units_of' {X : Cx} (g : Good c N sc k X) : X.A.units + 65 < cLine := by
  have := g.room.un
  omega
def rDEq (c : Cfg) : R2 := R2.or rEq (rEqD c.K)
def rDNe (c : Cfg) : R2 := R2.or rNe (rNeD c.K)
theorem or_eq : ∀ X, Good c N sc k X → OpR X (compareOp .Eq) (rDEq c) := fun X g => OpR.or op_eq (g.hK ▸ op_eqD (units_of g))
theorem or_ne : ∀ X, Good c N sc k X → OpR X (compareOp .NotEq) (rDNe c) := fun X g => OpR.or op_ne (g.hK ▸ op_neD (units_of g))
theorem os_eq : Ops c (rDEq c) dEq := fun S W σ H x y dx dy Q nS rx ry h => by
  unfold dEq at h
  split at h
  · rename_i hl
    have q := h _ H Ext.refl (.bl _)
    by_cases hs : scalD dx dy = true
    · obtain ⟨h1, h2⟩ := scal_ok hs rx ry
      exact .inl ⟨h1, by rw [h2]; exact q⟩
    · have hl' : dx.lay 20 = true ∧ dy.lay 20 = true := by
        rw [Bool.or_eq_true, Bool.and_eq_true] at hl
        exact hl.resolve_left hs
      exact .inr ⟨_, _, rx.dp hl'.1, ry.dp hl'.2, shaped_of hl'.1 (by decide), shaped_of hl'.2 (by decide), by rw [eqv_ok 20 20 _ _ hl'.1 hl'.2]; exact q⟩
  · exact h.elim
theorem os_ne : Ops c (rDNe c) dNe := fun S W σ H x y dx dy Q nS rx ry h => by
  unfold dNe at h
  split at h
  · rename_i hl
    have q := h _ H Ext.refl (.bl _)
    by_cases hs : scalD dx dy = true
    · obtain ⟨h1, h2⟩ := scal_ok hs rx ry
      exact .inl ⟨h1, by rw [h2]; exact q⟩
    · have hl' : dx.lay 20 = true ∧ dy.lay 20 = true := by
        rw [Bool.or_eq_true, Bool.and_eq_true] at hl
        exact hl.resolve_left hs
      exact .inr ⟨_, _, rx.dp hl'.1, ry.dp hl'.2, shaped_of hl'.1 (by decide), shaped_of hl'.2 (by decide), by rw [eqv_ok 20 20 _ _ hl'.1 hl'.2]; exact q⟩
  · exact h.elim
end
end NB
end

section
set_option Elab.async false
set_option linter.all false
set_option maxRecDepth 100000
/-! NBOps2: order, in, truth, items, slices; the rules of the constructs of expressions. -/
namespace NB
open PySem PySem.Spec PyProof.Rows L2
theorem ltN_ok : ∀ x y : List Nat, ltN x y = decide (x < y)
  | [], [] => by simp [ltN]
  | [], _ :: _ => by simp [ltN]
  | _ :: _, [] => by simp [ltN]
  | x :: xs, y :: ys => by
    unfold ltN
    by_cases e : x = y
    · rw [if_pos e, ltN_ok xs ys]
      subst e
      simp [List.cons_lt_cons_iff]
    · rw [if_neg e]
      simp [List.cons_lt_cons_iff, e]
theorem lt_tx (a b : List Nat) : decide ((tx a).cps.toList < (tx b).cps.toList) = ltN a b := by rw [tx_cps, tx_cps, ltN_ok]
section
variable {c : Cfg} {N : List Str} {sc : Sco} {k : Nat}
abbrev rSS (g : Str → Str → V) : R2 := fun x y H Q => ∃ i j, x = .str i ∧ y = .str j ∧ Q (g i j) H
theorem or_lt : ∀ X, Good c N sc k X → OpR X (compareOp .Lt) (R2.or (rI0 fun i j => .bl (decide (i < j))) (rSS fun i j => .bl (decide (i.cps.toList < j.cps.toList)))) := fun X g => OpR.or op_lt op_lt_str
theorem or_le : ∀ X, Good c N sc k X → OpR X (compareOp .LtE) (R2.or (rI0 fun i j => .bl (decide (i ≤ j))) (rSS fun i j => .bl (!decide (j.cps.toList < i.cps.toList)))) := fun X g => OpR.or op_le op_le_str
theorem or_gt : ∀ X, Good c N sc k X → OpR X (compareOp .Gt) (R2.or (rI0 fun i j => .bl (decide (j < i))) (rSS fun i j => .bl (decide (j.cps.toList < i.cps.toList)))) := fun X g => OpR.or op_gt op_gt_str
theorem or_ge : ∀ X, Good c N sc k X → OpR X (compareOp .GtE) (R2.or (rI0 fun i j => .bl (decide (j ≤ i))) (rSS fun i j => .bl (!decide (i.cps.toList < j.cps.toList)))) := fun X g => OpR.or op_ge op_ge_str
theorem os_lt : Ops c (R2.or (rI0 fun i j => .bl (decide (i < j))) (rSS fun i j => .bl (decide (i.cps.toList < j.cps.toList)))) dLt := fun S W σ H x y dx dy Q nS rx ry h => by
  unfold dLt at h
  split at h
  · exact .inl ⟨_, _, two rx, two ry, h _ H Ext.refl (.bl _)⟩
  · rename_i a b
    refine .inr ⟨_, _, twoS rx, twoS ry, ?_⟩
    have e1 := lt_tx a b
    have e2 := lt_tx b a
    first
      | exact (congrArg (fun z => Q (.bl z) H) e1).mpr (h _ H Ext.refl (.bl _))
      | exact (congrArg (fun z => Q (.bl z) H) e2).mpr (h _ H Ext.refl (.bl _))
      | exact (congrArg (fun z => Q (.bl (!z)) H) e1).mpr (h _ H Ext.refl (.bl _))
      | exact (congrArg (fun z => Q (.bl (!z)) H) e2).mpr (h _ H Ext.refl (.bl _))
  · exact h.elim
theorem os_le : Ops c (R2.or (rI0 fun i j => .bl (decide (i ≤ j))) (rSS fun i j => .bl (!decide (j.cps.toList < i.cps.toList)))) dLe := fun S W σ H x y dx dy Q nS rx ry h => by
  unfold dLe at h
  split at h
  · exact .inl ⟨_, _, two rx, two ry, h _ H Ext.refl (.bl _)⟩
  · rename_i a b
    refine .inr ⟨_, _, twoS rx, twoS ry, ?_⟩
    have e1 := lt_tx a b
    have e2 := lt_tx b a
    first
      | exact (congrArg (fun z => Q (.bl z) H) e1).mpr (h _ H Ext.refl (.bl _))
      | exact (congrArg (fun z => Q (.bl z) H) e2).mpr (h _ H Ext.refl (.bl _))
      | exact (congrArg (fun z => Q (.bl (!z)) H) e1).mpr (h _ H Ext.refl (.bl _))
      | exact (congrArg (fun z => Q (.bl (!z)) H) e2).mpr (h _ H Ext.refl (.bl _))
  · exact h.elim
theorem os_gt : Ops c (R2.or (rI0 fun i j => .bl (decide (j < i))) (rSS fun i j => .bl (decide (j.cps.toList < i.cps.toList)))) dGt := fun S W σ H x y dx dy Q nS rx ry h => by
  unfold dGt at h
  split at h
  · exact .inl ⟨_, _, two rx, two ry, h _ H Ext.refl (.bl _)⟩
  · rename_i a b
    refine .inr ⟨_, _, twoS rx, twoS ry, ?_⟩
    have e1 := lt_tx a b
    have e2 := lt_tx b a
    first
      | exact (congrArg (fun z => Q (.bl z) H) e1).mpr (h _ H Ext.refl (.bl _))
      | exact (congrArg (fun z => Q (.bl z) H) e2).mpr (h _ H Ext.refl (.bl _))
      | exact (congrArg (fun z => Q (.bl (!z)) H) e1).mpr (h _ H Ext.refl (.bl _))
      | exact (congrArg (fun z => Q (.bl (!z)) H) e2).mpr (h _ H Ext.refl (.bl _))
  · exact h.elim
theorem os_ge : Ops c (R2.or (rI0 fun i j => .bl (decide (j ≤ i))) (rSS fun i j => .bl (!decide (i.cps.toList < j.cps.toList)))) dGe := fun S W σ H x y dx dy Q nS rx ry h => by
  unfold dGe at h
  split at h
  · exact .inl ⟨_, _, two rx, two ry, h _ H Ext.refl (.bl _)⟩
  · rename_i a b
    refine .inr ⟨_, _, twoS rx, twoS ry, ?_⟩
    have e1 := lt_tx a b
    have e2 := lt_tx b a
    first
      | exact (congrArg (fun z => Q (.bl z) H) e1).mpr (h _ H Ext.refl (.bl _))
      | exact (congrArg (fun z => Q (.bl z) H) e2).mpr (h _ H Ext.refl (.bl _))
      | exact (congrArg (fun z => Q (.bl (!z)) H) e1).mpr (h _ H Ext.refl (.bl _))
      | exact (congrArg (fun z => Q (.bl (!z)) H) e2).mpr (h _ H Ext.refl (.bl _))
  · exact h.elim
/-! is None -/
theorem non_iff {K : PySem.W.Frag} {H : Hp} {S : Addr → Prop} {v : V} {d : D} (r : RpT K H S v d) : dIsN d .non = .ok (.bl (decide (v = .non))) := by
  cases d with
  | lst ds => obtain ⟨a, vs, rfl, _⟩ := r; simp [dIsN]
  | dic ks ds => obtain ⟨a, vs, rfl, _⟩ := r; simp [dIsN]
  | _ => cases (show Rp K H S v _ from r) <;> simp [dIsN]
theorem or_isN : ∀ X, Good c N sc k X → OpR X (compareOp .Is) (fun x y H Q => y = .non ∧ Q (.bl (decide (x = .non))) H) := fun X g => op_isN
theorem or_notN : ∀ X, Good c N sc k X → OpR X (compareOp .IsNot) (fun x y H Q => y = .non ∧ Q (.bl (!decide (x = .non))) H) := fun X g => op_notN
theorem os_isN : Ops c (fun x y H Q => y = .non ∧ Q (.bl (decide (x = .non))) H) dIsN := fun S W σ H x y dx dy Q nS rx ry h => by
  cases dy with
  | non =>
    rw [non_iff rx] at h
    exact ⟨twoN ry, h _ H Ext.refl (.bl _)⟩
  | _ => cases dx <;> exact h.elim
theorem isNot_of (d : D) : dIsNotN d .non = (dIsN d .non).bind dNotB := by cases d <;> rfl
theorem os_notN : Ops c (fun x y H Q => y = .non ∧ Q (.bl (!decide (x = .non))) H) dIsNotN := fun S W σ H x y dx dy Q nS rx ry h => by
  cases dy with
  | non =>
    rw [isNot_of, non_iff rx] at h
    exact ⟨twoN ry, h _ H Ext.refl (.bl _)⟩
  | _ => cases dx <;> exact h.elim
/-! in -/
theorem eqv_any {n : Nat} {x : D} (hx : x.lay 20 = true) : ∀ (ys : List D), D.layAll n ys = true → ((toPyAll ys).any fun z => PyData.eqv z (toPy x)) = ys.any fun y => y.eqv x
  | [], _ => rfl
  | y :: ys, h => by
    have h' : y.lay n = true ∧ D.layAll n ys = true := by simpa [D.layAll] using h
    simp only [toPyAll, List.any_cons]
    rw [eqv_ok n 20 y x h'.1 hx, eqv_any hx ys h'.2]
theorem flat_ok {K : PySem.W.Frag} {H : Hp} {S : Addr → Prop} {v : V} {d : D} (h : flatD d = true) (r : RpT K H S v d) : flatV v = true := by
  cases d with
  | non => cases twoN r; rfl
  | bl b => cases twoB r; rfl
  | int i => cases two r; rfl
  | str x => cases twoS r; rfl
  | _ => cases h
theorem flat_eqv {K : PySem.W.Frag} {H : Hp} {S : Addr → Prop} {v u : V} {x y : D} (hx : flatD x = true) (hy : flatD y = true) (r : RpT K H S v x) (q : RpT K H S u y) : eqV v u = x.eqv y := by
  cases x <;> first
    | cases hx; done
    | (cases y <;> first
        | cases hy; done
        | (first | cases twoN r | cases two r | cases twoB r | cases twoS r
           first | cases twoN q | cases two q | cases twoB q | cases twoS q
           first
             | (simp only [eqV, D.eqv]; exact tx_beq _ _)
             | simp [eqV, D.eqv]))
theorem flat_all {K : PySem.W.Frag} {H : Hp} {S : Addr → Prop} {v : V} {x : D} (hx : flatD x = true) (r : RpT K H S v x) : ∀ {vs : List V} {ys : List D}, ys.all flatD = true → RpAll K H S vs ys → vs.all flatV = true ∧ inV v vs = ys.any fun y => y.eqv x
  | _, _, _, .nil => ⟨rfl, rfl⟩
  | _, _, h, .cons r1 q => by
    rw [List.all_cons, Bool.and_eq_true] at h
    obtain ⟨h1, h2⟩ := flat_all hx r h.2 q
    refine ⟨by rw [List.all_cons, Bool.and_eq_true]; exact ⟨flat_ok h.1 r1.t, h1⟩, ?_⟩
    unfold inV at h2 ⊢
    rw [List.any_cons, List.any_cons, h2, flat_eqv h.1 hx r1.t r]
def rDIn (c : Cfg) : R2 := R2.or (fun x y H Q => ∃ (c : Nat) (z : Str), x = .str ⟨#[c]⟩ ∧ y = .str z ∧ Q (.bl (decide (c ∈ z.cps.toList))) H) (R2.or (rIn c.K false) (rInD c.K))
def rDNotIn (c : Cfg) : R2 := R2.or (fun x y H Q => ∃ (c : Nat) (z : Str), x = .str ⟨#[c]⟩ ∧ y = .str z ∧ Q (.bl (!decide (c ∈ z.cps.toList))) H) (R2.or (rIn c.K true) (rNotInD c.K))
theorem or_in : ∀ X, Good c N sc k X → OpR X (compareOp .In) (rDIn c) := fun X g => OpR.or op_in_sign (OpR.or (g.hK ▸ op_in_seq) (g.hK ▸ op_inD (units_of' g)))
theorem or_notIn : ∀ X, Good c N sc k X → OpR X (compareOp .NotIn) (rDNotIn c) := fun X g => OpR.or op_notIn_sign (OpR.or (g.hK ▸ op_notIn_seq) (g.hK ▸ op_notInD (units_of' g)))
/-- what in says of a sequence, as its rules take it -/
theorem inSeq_ok {S : Addr → Prop} {H : Hp} {x y : V} {dx : D} {ys : List D} {tup : Bool} {P : Bool → Prop} (rx : RpT c.K H S x dx) {a : Addr} {vs : List V} (ey : y = .ref a) (hq : (tup = false ∧ H a = some (.lst vs)) ∨ (tup = true ∧ SqT c.K H a vs)) (ra : RpAll c.K H S vs ys)
    {r : Res D} (e : inSeq tup dx ys = r) (hr : ∀ b, r = .ok (.bl b) → P b) (hs : r ≠ .stuck) :
    (∃ p xs, y = .ref p ∧ (SqL c.K H p xs ∨ SqT c.K H p xs) ∧ flatV x = true ∧ xs.all flatV = true ∧ P (inV x xs)) ∨ (∃ d ds, Dp c.K H x d ∧ Dp c.K H y (.list ds) ∧ SeqAt.shaped d = true ∧ SeqAt.shaped (.list ds) = true ∧ P (ds.any fun z => PyData.eqv z d)) := by
  unfold inSeq at e
  split at e
  · rename_i hc
    have hp := hr _ e.symm
    by_cases hf : (flatD dx && ys.all flatD) = true
    · rw [Bool.and_eq_true] at hf
      obtain ⟨h1, h2⟩ := flat_all hf.1 rx hf.2 ra
      exact .inl ⟨a, vs, ey, hq.elim (fun z => .inl (.inl (.inl z.2))) fun z => .inr z.2, flat_ok hf.1 rx, h1, by rw [h2]; exact hp⟩
    · have hc' : (!tup && dx.lay 20 && D.layAll 19 ys) = true := by
        rw [Bool.or_eq_true] at hc
        exact hc.resolve_left hf
      rw [Bool.and_eq_true, Bool.and_eq_true] at hc'
      obtain ⟨⟨ht, h1⟩, h2⟩ := hc'
      have hl : (D.lst ys).lay 20 = true := by simpa [D.lay] using h2
      rcases hq with ⟨_, hq⟩ | ⟨hq, _⟩
      · have hy : RpT c.K H S y (.lst ys) := ⟨a, vs, ey, hq, ra⟩
        have q1 := hy.dp hl
        have q2 := shaped_of hl (by decide)
        simp only [toPy] at q1 q2
        exact .inr ⟨_, _, rx.dp h1, q1, shaped_of h1 (by decide), q2, by rw [eqv_any h1 ys h2]; exact hp⟩
      · rw [hq] at ht
        cases ht
  · exact absurd e.symm hs
theorem os_in : Ops c (rDIn c) dIn := fun S W σ H x y dx dy Q nS rx ry h => by
  have seq : ∀ {tup : Bool} {ys : List D} {a : Addr} {vs : List V}, RD c S W σ H Q (inSeq tup dx ys) → y = .ref a → ((tup = false ∧ H a = some (.lst vs)) ∨ (tup = true ∧ SqT c.K H a vs)) → RpAll c.K H S vs ys → rDIn c x y H Q := fun {tup ys a vs} h ey hq ra => by
    rcases inSeq_ok (P := fun b => Q (.bl b) H) rx ey hq ra rfl (fun b e => by rw [e] at h; exact h _ H Ext.refl (.bl b)) (fun e => by rw [e] at h; exact h) with ⟨p, xs, e1, e2, e3, e4, e5⟩ | z
    · exact .inr (.inl ⟨p, xs, e1, e2, e3, e4, by rw [if_neg Bool.false_ne_true]; exact e5⟩)
    · exact .inr (.inr z)
  unfold dIn at h
  split at h
  · rename_i ch z
    refine .inl ⟨ch, tx z, twoS rx, twoS ry, ?_⟩
    exact (congrArg (fun l => Q (.bl (decide (ch ∈ l))) H) (tx_cps z)).mpr (h _ H Ext.refl (.bl _))
  · obtain ⟨a, vs, ey, hq, ra⟩ := ry
    exact seq h ey (.inl ⟨rfl, hq⟩) ra
  · cases (show Rp c.K H S y _ from ry) with
    | tup hq ra => exact seq h rfl (.inr ⟨rfl, hq⟩) ra
  · exact h.elim
theorem os_notIn : Ops c (rDNotIn c) dNotIn := fun S W σ H x y dx dy Q nS rx ry h => by
  have nb : ∀ {r : Res D}, RD c S W σ H Q (r.bind dNotB) → ∀ b, r = .ok (.bl b) → Q (.bl (!b)) H := fun {r} h b e => by
    rw [e] at h
    exact h _ H Ext.refl (.bl _)
  have ns : ∀ {r : Res D}, RD c S W σ H Q (r.bind dNotB) → r ≠ .stuck := fun {r} h e => by
    rw [e] at h
    exact h
  have seq : ∀ {tup : Bool} {ys : List D} {a : Addr} {vs : List V}, RD c S W σ H Q ((inSeq tup dx ys).bind dNotB) → y = .ref a → ((tup = false ∧ H a = some (.lst vs)) ∨ (tup = true ∧ SqT c.K H a vs)) → RpAll c.K H S vs ys → rDNotIn c x y H Q := fun {tup ys a vs} h ey hq ra => by
    rcases inSeq_ok (P := fun b => Q (.bl (!b)) H) rx ey hq ra rfl (nb h) (ns h) with ⟨p, xs, e1, e2, e3, e4, e5⟩ | z
    · exact .inr (.inl ⟨p, xs, e1, e2, e3, e4, by rw [if_pos rfl]; exact e5⟩)
    · exact .inr (.inr z)
  unfold dNotIn dIn at h
  split at h
  · rename_i ch z
    refine .inl ⟨ch, tx z, twoS rx, twoS ry, ?_⟩
    exact (congrArg (fun l => Q (.bl (!decide (ch ∈ l))) H) (tx_cps z)).mpr (h _ H Ext.refl (.bl _))
  · obtain ⟨a, vs, ey, hq, ra⟩ := ry
    exact seq h ey (.inl ⟨rfl, hq⟩) ra
  · cases (show Rp c.K H S y _ from ry) with
    | tup hq ra => exact seq h rfl (.inr ⟨rfl, hq⟩) ra
  · exact h.elim
end
/-! ### the rules of the constructs -/
section
variable {c : Cfg} {N : List Str} {sc : Sco} {k : Nat} {a b d ex : Expr} {f g h : DE} {tf tg : DT} {pos : Pos} {rest : List Expr}
theorem se_add (ha : ST c N sc k a f) (hb : ST c N sc k b g) : SE c N sc k (.BinOp a .Add b pos) (e2 dAdd f g) := se_op or_add os_add ha hb
theorem se_sub (ha : ST c N sc k a f) (hb : ST c N sc k b g) : SE c N sc k (.BinOp a .Sub b pos) (e2 dSub f g) := se_op (fun _ _ => op_sub) os_sub ha hb
theorem se_mul (ha : ST c N sc k a f) (hb : ST c N sc k b g) : SE c N sc k (.BinOp a .Mult b pos) (e2 dMul f g) := se_op or_mul os_mul ha hb
theorem se_div (ha : ST c N sc k a f) (hb : ST c N sc k b g) : SE c N sc k (.BinOp a .FloorDiv b pos) (e2 dDiv f g) := se_op or_div os_div ha hb
theorem se_mod (ha : ST c N sc k a f) (hb : ST c N sc k b g) : SE c N sc k (.BinOp a .Mod b pos) (e2 dMod f g) := se_op (fun _ _ => op_mod) os_mod ha hb
theorem se_pow (ha : ST c N sc k a f) (hb : ST c N sc k b g) : SE c N sc k (.BinOp a .Pow b pos) (e2 dPow f g) := se_op (fun _ _ => op_pow) os_pow ha hb
theorem se_xor (ha : ST c N sc k a f) (hb : ST c N sc k b g) : SE c N sc k (.BinOp a .BitXor b pos) (e2 dXor f g) := se_op (fun _ _ => op_xor) os_xor ha hb
theorem se_neg (ha : ST c N sc k a f) : SE c N sc k (.UnaryOp .USub a pos) (e1 dNeg f) := fun X W gd tk =>
  (pe_un un_neg (ha X W gd tk)).mono' fun σ H Q ⟨A, H₀, S, G, ρ, E, q⟩ => by
    refine rdT_bind E q (fun j z => z) (fun z => z) fun d v H1 e r1 E1 h1 => ?_
    cases d with
    | int i => exact ⟨i, two r1, h1 _ H1 e (.int _)⟩
    | _ => exact h1.elim
/-- a comparison: as a value, as a test -/
structure CmpR (c : Cfg) (o : CmpOp) (op : D → D → Res D) : Prop where
  ex : ∃ r : R2, (∀ N sc k X, Good c N sc k X → OpR X (compareOp o) r) ∧ Ops c r op
  bl : ∀ x y d, op x y = .ok d → ∃ b, d = .bl b
theorem cm_eq : CmpR c .Eq dEq := ⟨⟨_, fun _ _ _ => or_eq, os_eq⟩, fun x y d h => by
  unfold dEq at h
  split at h <;> cases h
  exact ⟨_, rfl⟩⟩
theorem cm_ne : CmpR c .NotEq dNe := ⟨⟨_, fun _ _ _ => or_ne, os_ne⟩, fun x y d h => by
  unfold dNe at h
  split at h <;> cases h
  exact ⟨_, rfl⟩⟩
theorem cm_lt : CmpR c .Lt dLt := ⟨⟨_, fun _ _ _ => or_lt, os_lt⟩, fun x y d h => by
  unfold dLt at h
  split at h <;> cases h <;> exact ⟨_, rfl⟩⟩
theorem cm_le : CmpR c .LtE dLe := ⟨⟨_, fun _ _ _ => or_le, os_le⟩, fun x y d h => by
  unfold dLe at h
  split at h <;> cases h <;> exact ⟨_, rfl⟩⟩
theorem cm_gt : CmpR c .Gt dGt := ⟨⟨_, fun _ _ _ => or_gt, os_gt⟩, fun x y d h => by
  unfold dGt at h
  split at h <;> cases h <;> exact ⟨_, rfl⟩⟩
theorem cm_ge : CmpR c .GtE dGe := ⟨⟨_, fun _ _ _ => or_ge, os_ge⟩, fun x y d h => by
  unfold dGe at h
  split at h <;> cases h <;> exact ⟨_, rfl⟩⟩
theorem cm_isN : CmpR c .Is dIsN := ⟨⟨_, fun _ _ _ => or_isN, os_isN⟩, fun x y d h => by
  unfold dIsN at h
  split at h <;> cases h <;> exact ⟨_, rfl⟩⟩
theorem cm_notN : CmpR c .IsNot dIsNotN := ⟨⟨_, fun _ _ _ => or_notN, os_notN⟩, fun x y d h => by
  unfold dIsNotN at h
  split at h <;> cases h <;> exact ⟨_, rfl⟩⟩
theorem inSeq_bl {t : Bool} {x : D} {ys : List D} {d : D} (h : inSeq t x ys = .ok d) : ∃ b, d = .bl b := by
  unfold inSeq at h
  split at h <;> cases h
  exact ⟨_, rfl⟩
theorem dIn_bl {x y d : D} (h : dIn x y = .ok d) : ∃ b, d = .bl b := by
  unfold dIn at h
  split at h
  · cases h
    exact ⟨_, rfl⟩
  · exact inSeq_bl h
  · exact inSeq_bl h
  · cases h
theorem cm_in : CmpR c .In dIn := ⟨⟨_, fun _ _ _ => or_in, os_in⟩, fun x y d h => dIn_bl h⟩
theorem cm_notIn : CmpR c .NotIn dNotIn := ⟨⟨_, fun _ _ _ => or_notIn, os_notIn⟩, fun x y d h => by
  unfold dNotIn at h
  cases q : dIn x y with
  | ok z =>
    obtain ⟨b, rfl⟩ := dIn_bl q
    rw [q] at h
    cases h
    exact ⟨_, rfl⟩
  | exc _ => rw [q] at h; cases h
  | stuck => rw [q] at h; cases h⟩
theorem se_cm {o : CmpOp} {op : D → D → Res D} (m : CmpR c o op) (ha : ST c N sc k a f) (hb : ST c N sc k b g) (hm : behindInMarks o b = false := by with_unfolding_all rfl) : SE c N sc k (.Compare a [o] [b] pos) (e2 op f g) := by
  obtain ⟨⟨r, h1, h2⟩, _⟩ := m
  exact se_cmp (h1 _ _ _) h2 ha hb hm
theorem sb_cm {o : CmpOp} {op : D → D → Res D} (m : CmpR c o op) (ha : ST c N sc k a f) (hb : ST c N sc k b g) (hm : behindInMarks o b = false := by with_unfolding_all rfl) : SB c N sc k (.Compare a [o] [b] pos) (tB (e2 op f g)) := fun X W gd tk => by
  obtain ⟨⟨r, h1, h2⟩, hbl⟩ := m
  refine (pt_cmpR (h1 _ _ _ X gd) (ha X W gd tk) (hb X W gd tk) hm).mono' fun σ H Q ⟨A, H₀, S, G, ρ, E, q⟩ => ?_
  refine tOp_of h2 ⟨A, H₀, S, G, ρ, E, ?_⟩
  unfold tB at q
  cases z : e2 op f g ρ with
  | ok d =>
    rw [z] at q
    have hd : ∃ b, d = .bl b := by
      unfold e2 at z
      cases z1 : f ρ with
      | ok x =>
        rw [z1] at z
        cases z2 : g ρ with
        | ok y =>
          have z' : (g ρ).bind (fun y => op x y) = .ok d := z
          rw [z2] at z'
          exact hbl _ _ _ z'
        | exc _ =>
          have z' : (g ρ).bind (fun y => op x y) = .ok d := z
          rw [z2] at z'
          cases z'
        | stuck =>
          have z' : (g ρ).bind (fun y => op x y) = .ok d := z
          rw [z2] at z'
          cases z'
      | exc _ => rw [z1] at z; cases z
      | stuck => rw [z1] at z; cases z
    obtain ⟨b, rfl⟩ := hd
    intro v H' e r
    cases r
    exact ⟨b, rfl, q H' e⟩
  | exc j =>
    rw [z] at q
    exact q
  | stuck =>
    rw [z] at q
    exact q
end
end NB
end

section
set_option Elab.async false
set_option linter.all false
set_option maxRecDepth 100000
/-! NBRule2: tests, calls of what is built in, displays, items, slices. -/
namespace NB
open PySem PySem.Spec PyProof.Rows L2
section
variable {c : Cfg} {N : List Str} {sc : Sco} {k : Nat} {a b d ex : Expr} {f g h : DE} {tf tg th : DT} {pos : Pos} {rest : List Expr}
/-! ### tests -/
theorem tru_ok' {K : PySem.W.Frag} {H : Hp} {S : Addr → Prop} {v : V} {d : D} {b : Bool} (r : RpT K H S v d) (h : truth d = .ok b) : TruV K v H b := by
  cases d with
  | non => cases twoN r; cases h; rfl
  | bl x => cases twoB r; cases h; rfl
  | int i => cases two r; cases h; rfl
  | str x =>
    cases twoS r
    have h : (if x.length ≤ line then Res.ok (!x.isEmpty) else Res.stuck) = .ok b := h
    by_cases hl : x.length ≤ line
    · rw [if_pos hl] at h
      cases h
      refine ⟨by rw [tx_len]; exact hl, ?_⟩
      rw [tx_len]
      cases x with
      | nil => rfl
      | cons y ys =>
        have : (((y :: ys).length : Int) != 0) = true := by
          rw [bne_iff_ne]
          simp only [List.length_cons]
          omega
        rw [this]
        rfl
    · rw [if_neg hl] at h
      cases h
  | lst ds =>
    obtain ⟨p, vs, rfl, q, ra⟩ := r
    cases h
    refine .inl ⟨vs, .inl (.inl q), ?_⟩
    cases ra <;> rfl
  | tup ds =>
    cases (show Rp K H S v (.tup ds) from r) with
    | tup q ra =>
      rename_i p vs
      cases h
      refine .inr (.inl ⟨vs, q, ?_⟩)
      cases ra <;> rfl
  | dic ks ds =>
    obtain ⟨p, kvs, rfl, q, e, ra⟩ := r
    cases h
    refine .inr (.inr ⟨kvs, q, ?_⟩)
    cases kvs with
    | nil =>
      cases ks with
      | nil => rfl
      | cons _ _ => cases e
    | cons _ _ =>
      cases ks with
      | nil => cases e
      | cons _ _ => rfl
  | _ => cases h
/-- the truth of a value -/
theorem sb_tru (ha : ST c N sc k a f) (he : ∀ (env : PySem.Env) whole, isTrue a env whole = (do let v ← whole; standAt a.pos; holding [v] (truthy v)) := by intro _ _; rfl) : SB c N sc k a (tT f) := fun X W gd tk =>
  (pt_truth (ha X W gd tk) (he _)).mono' fun σ H Q ⟨A, H₀, S, G, ρ, E, q⟩ => by
    refine rdT_bind (Z := RB c W σ H Q) E q (fun j z => z) (fun z => z) fun d v H1 e r1 E1 h1 => ?_
    cases z : truth d with
    | ok b =>
      rw [z] at h1
      exact ⟨b, by rw [gd.hK]; exact tru_ok' r1 z, h1 H1 e⟩
    | exc _ =>
      exfalso
      unfold truth at z
      split at z <;> first | (split at z <;> cases z) | cases z
    | stuck =>
      rw [z] at h1
      exact h1.elim
theorem sw_and1 (ha : SB c N sc k a tf) : SWd c N sc k (.BoolOp .And [a] pos) tf := fun X W gd tk => pw_and1 (ha X W gd tk)
theorem sw_or1 (ha : SB c N sc k a tf) : SWd c N sc k (.BoolOp .Or [a] pos) tf := fun X W gd tk => pw_or1 (ha X W gd tk)
theorem sw_and (ha : SB c N sc k a tf) (hb : SWd c N sc k (.BoolOp .And (b :: rest) pos) tg) : SWd c N sc k (.BoolOp .And (a :: b :: rest) pos) (tAnd tf tg) := fun X W gd tk =>
  (pw_and (ha X W gd tk) (hb X W gd tk)).mono' fun σ H Q ⟨A, H₀, S, G, ρ, E, q⟩ => by
    refine rdB_bind (Z := RB c W σ H Q) E q (fun j z => z) (fun z => z) fun x H1 e E1 h1 => ?_
    cases x with
    | true =>
      rw [if_pos rfl] at h1 ⊢
      exact ⟨A, H₀, S, G, ρ, E1, h1.ext e⟩
    | false =>
      rw [if_neg Bool.false_ne_true] at h1 ⊢
      exact h1 H1 e
theorem sw_or (ha : SB c N sc k a tf) (hb : SWd c N sc k (.BoolOp .Or (b :: rest) pos) tg) : SWd c N sc k (.BoolOp .Or (a :: b :: rest) pos) (tOr tf tg) := fun X W gd tk =>
  (pw_or (ha X W gd tk) (hb X W gd tk)).mono' fun σ H Q ⟨A, H₀, S, G, ρ, E, q⟩ => by
    refine rdB_bind (Z := RB c W σ H Q) E q (fun j z => z) (fun z => z) fun x H1 e E1 h1 => ?_
    cases x with
    | true =>
      rw [if_pos rfl] at h1 ⊢
      exact h1 H1 e
    | false =>
      rw [if_neg Bool.false_ne_true] at h1 ⊢
      exact ⟨A, H₀, S, G, ρ, E1, h1.ext e⟩
theorem sb_w (h : SWd c N sc k ex tf) : SB c N sc k ex tf := fun X W gd tk => (h X W gd tk).pt
theorem sb_not (ha : SB c N sc k a tf) : SB c N sc k (.UnaryOp .Not a pos) (tNot tf) := fun X W gd tk =>
  (pt_not (ha X W gd tk)).mono' fun σ H Q ⟨A, H₀, S, G, ρ, E, q⟩ =>
    rdB_bind (Z := RB c W σ H Q) E q (fun j z => z) (fun z => z) fun x H1 e E1 h1 => h1 H1 e
theorem pe_ifExp' (hc : SB c N sc k ex tf) (ha : SE c N sc k a f) (hb : SE c N sc k b g) : SE c N sc k (.IfExp ex a b pos) (eIf tf f g) := fun X W gd tk =>
  (pe_ifExp (hc X W gd tk) (ha X W gd tk) (hb X W gd tk)).mono' fun σ H Q ⟨A, H₀, S, G, ρ, E, q⟩ => by
    refine rdB_bind (Z := RD c S W σ H Q) E q (fun j z => z) (fun z => z) fun x H1 e E1 h1 => ?_
    cases x with
    | true =>
      rw [if_pos rfl] at h1 ⊢
      exact ⟨A, H₀, S, G, ρ, E1, h1.ext e⟩
    | false =>
      rw [if_neg Bool.false_ne_true] at h1 ⊢
      exact ⟨A, H₀, S, G, ρ, E1, h1.ext e⟩
/-- and, or, not as values -/
theorem se_one {o : BoolOp} (ha : SE c N sc k a f) : SE c N sc k (.BoolOp o [a] pos) f := fun X W gd tk => pe_one (ha X W gd tk)
theorem se_and (ha : SE c N sc k a f) (hb : SE c N sc k (.BoolOp .And (b :: rest) pos) g) : SE c N sc k (.BoolOp .And (a :: b :: rest) pos) (eAnd f g) := fun X W gd tk =>
  (pe_and (ha X W gd tk) (hb X W gd tk)).mono' fun σ H Q ⟨A, H₀, S, G, ρ, E, q⟩ => by
    refine rdE_bind (Z := RD c S W σ H Q) E q (fun j z => z) (fun z => z) fun d v H1 e r1 E1 h1 => ?_
    cases d with
    | bl x =>
      cases r1
      refine ⟨x, rfl, ?_⟩
      cases x with
      | true => exact iteT ⟨A, H₀, S, G, ρ, E1, h1.ext e⟩
      | false => exact iteF (h1 _ H1 e (.bl false))
    | _ => exact h1.elim
theorem se_or (ha : SE c N sc k a f) (hb : SE c N sc k (.BoolOp .Or (b :: rest) pos) g) : SE c N sc k (.BoolOp .Or (a :: b :: rest) pos) (eOr f g) := fun X W gd tk =>
  (pe_or (ha X W gd tk) (hb X W gd tk)).mono' fun σ H Q ⟨A, H₀, S, G, ρ, E, q⟩ => by
    refine rdE_bind (Z := RD c S W σ H Q) E q (fun j z => z) (fun z => z) fun d v H1 e r1 E1 h1 => ?_
    cases d with
    | bl x =>
      cases r1
      refine ⟨x, rfl, ?_⟩
      cases x with
      | true => exact iteT (h1 _ H1 e (.bl true))
      | false => exact iteF ⟨A, H₀, S, G, ρ, E1, h1.ext e⟩
    | _ => exact h1.elim
theorem se_not (ha : SE c N sc k a f) : SE c N sc k (.UnaryOp .Not a pos) (e1 dNotB f) := fun X W gd tk =>
  (pe_not (ha X W gd tk)).mono' fun σ H Q ⟨A, H₀, S, G, ρ, E, q⟩ => by
    refine rdE_bind (Z := RD c S W σ H Q) E q (fun j z => z) (fun z => z) fun d v H1 e r1 E1 h1 => ?_
    cases d with
    | bl x =>
      cases r1
      exact ⟨x, rfl, h1 _ H1 e (.bl _)⟩
    | _ => exact h1.elim
/-- a op b op' c -/
theorem tChain_of {r r' : R2} {op op' : D → D → Res D} (h1 : Ops c r op) (h2 : Ops c r' op') {W : WX} {σ : L2.St} {H : Hp} {Q : VK} (q : rdE c W (eChain op op' f g h) σ H Q) : tChain r r' (rdT c W f) (rdT c W g) (rdT c W h) σ H Q := by
  obtain ⟨A, H₀, S, G, ρ, E, q⟩ := q
  refine rdT_bind (Z := RD c S W σ H Q) E q (fun j z => z) (fun z => z) fun x v H1 e r1 E1 q1 => ?_
  refine rdT_bind (Z := RD c S W σ H Q) E1 q1 (fun j z => RX.ext e z) (fun z => z) fun y u H2 e2 r2 E2 q2 => ?_
  have e02 := e.trans e2
  refine h1 S W σ H2 v u x y _ E2.nS (r1.ext e2.n) r2 ?_
  cases z : op x y with
  | ok d =>
    rw [z] at q2
    intro w H3 e3 r3
    cases d with
    | bl b =>
      cases r3
      refine ⟨b, rfl, ?_⟩
      cases b with
      | false => exact iteF (q2 _ H3 (e02.trans e3) (.bl _))
      | true =>
        refine iteT ?_
        refine rdT_bind (Z := RD c S W σ H Q) (E2.ext e3) q2 (fun j z => RX.ext (e02.trans e3) z) (fun z => z) fun y' u' H4 e4 r4 E4 q4 => ?_
        exact h2 S W σ H4 u u' y y' Q E4.nS ((r2.ext e3.n).ext e4.n) r4 (q4.ext ((e02.trans e3).trans e4))
    | _ => exact q2.elim
  | exc j =>
    rw [z] at q2
    exact RX.ext e02 q2
  | stuck =>
    rw [z] at q2
    exact q2
theorem se_chain {o o' : CmpOp} {op op' : D → D → Res D} (m : CmpR c o op) (m' : CmpR c o' op') (ha : ST c N sc k a f) (hb : ST c N sc k b g) (hc : ST c N sc k d h) (hm : lastMarks [o, o'] [b, d] = false := by with_unfolding_all rfl) :
    SE c N sc k (.Compare a [o, o'] [b, d] pos) (eChain op op' f g h) := fun X W gd tk => by
  obtain ⟨⟨r, h1, h2⟩, _⟩ := m
  obtain ⟨⟨r', h3, h4⟩, _⟩ := m'
  exact (pe_chain (h1 _ _ _ X gd) (h3 _ _ _ X gd) (ha X W gd tk) (hb X W gd tk) (hc X W gd tk) hm).mono' fun σ H Q q => tChain_of h2 h4 q
theorem tB_bl {F : DE} (hbl : ∀ ρ d, F ρ = .ok d → ∃ b, d = .bl b) {W : WX} {σ : L2.St} {H : Hp} {Q : Bool → Hp → Prop} (q : rdB c W (tB F) σ H Q) : rdE c W F σ H (fun x H' => ∃ k, x = .bl k ∧ Q k H') := by
  obtain ⟨A, H₀, S, G, ρ, E, q⟩ := q
  refine ⟨A, H₀, S, G, ρ, E, ?_⟩
  unfold tB at q
  cases z : F ρ with
  | ok d =>
    obtain ⟨b, rfl⟩ := hbl ρ d z
    rw [z] at q
    intro v H' e r
    cases r
    exact ⟨b, rfl, q H' e⟩
  | exc j =>
    rw [z] at q
    exact q
  | stuck =>
    rw [z] at q
    exact q
theorem chain_bl {o' : CmpOp} {op op' : D → D → Res D} (m' : CmpR c o' op') (ρ : Env) (x : D) (z : eChain op op' f g h ρ = .ok x) : ∃ b, x = .bl b := by
  unfold eChain at z
  cases z1 : f ρ with
  | ok x1 =>
    rw [z1] at z
    have z : (g ρ).bind _ = _ := z
    cases z2 : g ρ with
    | ok x2 =>
      rw [z2] at z
      have z : (op x1 x2).bind _ = _ := z
      cases z3 : op x1 x2 with
      | ok x3 =>
        rw [z3] at z
        cases x3 with
        | bl b =>
          cases b with
          | true =>
            have z : (h ρ).bind (fun w => op' x2 w) = .ok x := z
            cases z4 : h ρ with
            | ok x4 =>
              rw [z4] at z
              exact m'.bl _ _ _ z
            | exc _ => rw [z4] at z; cases z
            | stuck => rw [z4] at z; cases z
          | false =>
            cases z
            exact ⟨_, rfl⟩
        | _ => cases z
      | exc _ => rw [z3] at z; cases z
      | stuck => rw [z3] at z; cases z
    | exc _ => rw [z2] at z; cases z
    | stuck => rw [z2] at z; cases z
  | exc _ => rw [z1] at z; cases z
  | stuck => rw [z1] at z; cases z
theorem sb_chain {o o' : CmpOp} {op op' : D → D → Res D} (m : CmpR c o op) (m' : CmpR c o' op') (ha : ST c N sc k a f) (hb : ST c N sc k b g) (hc : ST c N sc k d h) (hm : lastMarks [o, o'] [b, d] = false := by with_unfolding_all rfl) :
    SB c N sc k (.Compare a [o, o'] [b, d] pos) (tB (eChain op op' f g h)) := fun X W gd tk => by
  obtain ⟨⟨r, h1, h2⟩, _⟩ := m
  obtain ⟨⟨r', h3, h4⟩, hb2⟩ := id m'
  exact (pt_chain (h1 _ _ _ X gd) (h3 _ _ _ X gd) (ha X W gd tk) (hb X W gd tk) (hc X W gd tk) hm).mono' fun σ H Q q => tChain_of h2 h4 (tB_bl (chain_bl m') q)
end

/-! ### argument lists -/
inductive RpTs (K : PySem.W.Frag) (H : Hp) (S : Addr → Prop) : List V → List D → Prop
  | nil : RpTs K H S [] []
  | cons {v : V} {vs : List V} {d : D} {ds : List D} : RpT K H S v d → RpTs K H S vs ds → RpTs K H S (v :: vs) (d :: ds)
def RTA (c : Cfg) (S : Addr → Prop) (W : WX) (σ : L2.St) (H : Hp) (Q : List V → Hp → Prop) : Res (List D) → Prop
  | .ok ds => ∀ vs H', Ext c.T H H' → RpTs c.K H' S vs ds → Q vs H'
  | .exc k => RX c W σ H k
  | .stuck => False
def rdTA (c : Cfg) (W : WX) (fs : List DE) : TA := fun σ H Q => ∃ A H₀ S G ρ, EnvR c A H₀ S G σ H ρ ∧ RTA c S W σ H Q (args fs ρ)
def STA (c : Cfg) (N : List Str) (sc : Sco) (k : Nat) (es : List Expr) (fs : List DE) : Prop := ∀ X W, Good c N sc k X → L2N.Takes X W → PA X es (rdTA c W fs)
theorem RTA.ext {c : Cfg} {W : WX} {σ : L2.St} {H H1 : Hp} {S : Addr → Prop} (e : Ext c.T H H1) {Q : List V → Hp → Prop} {r : Res (List D)} (h : RTA c S W σ H Q r) : RTA c S W σ H1 Q r := by
  cases r with
  | ok d => exact fun v H' e' q => h v H' (e.trans e') q
  | exc k => exact RX.ext e h
  | stuck => exact h
theorem RpTs.ext {K : PySem.W.Frag} {H H' : Hp} {S : Addr → Prop} (e : LamX.ExtN H H') : ∀ {vs : List V} {ds : List D}, RpTs K H S vs ds → RpTs K H' S vs ds
  | _, _, .nil => .nil
  | _, _, .cons r q => .cons (r.ext e) (RpTs.ext e q)
section
variable {c : Cfg} {N : List Str} {sc : Sco} {k : Nat} {a b d ex : Expr} {f g h : DE} {fs : List DE} {tf tg th : DT} {pos : Pos} {es : List Expr}
theorem sta_nil : STA c N sc k [] [] := fun X W gd tk => pa_nil.mono' fun σ H Q ⟨A, H₀, S, G, ρ, E, q⟩ => q [] H Ext.refl .nil
theorem sta_cons (ha : ST c N sc k a f) (hr : STA c N sc k es fs) (hs : ∀ env : PySem.Env, starEach (a :: es) env = (false, eval a env) :: starEach es env := by intro _; rfl) : STA c N sc k (a :: es) (f :: fs) := fun X W gd tk =>
  (pa_cons (ha X W gd tk) (hr X W gd tk) (hs _)).mono' fun σ H Q ⟨A, H₀, S, G, ρ, E, q⟩ => by
    have q : RTA c S W σ H Q ((f ρ).bind fun x => (args fs ρ).bind fun xs => .ok (x :: xs)) := q
    refine rdT_bind (Z := RTA c S W σ H Q) E q (fun j z => z) (fun z => z) fun x v H1 e r1 E1 q1 => ?_
    refine ⟨A, H₀, S, G, ρ, E1, ?_⟩
    cases z : args fs ρ with
    | ok ds =>
      rw [z] at q1
      exact fun vs H2 e2 r2 => q1 (v :: vs) H2 (e.trans e2) (.cons (r1.ext e2.n) r2)
    | exc j =>
      rw [z] at q1
      exact RX.ext e q1
    | stuck =>
      rw [z] at q1
      exact q1
theorem sa_nil : SA c N sc k [] [] := fun X W gd tk => pa_nil.mono' fun σ H Q ⟨A, H₀, S, G, ρ, E, q⟩ => q [] H Ext.refl .nil
theorem sa_cons (ha : SE c N sc k a f) (hr : SA c N sc k es fs) (hs : ∀ env : PySem.Env, starEach (a :: es) env = (false, eval a env) :: starEach es env := by intro _; rfl) : SA c N sc k (a :: es) (f :: fs) := fun X W gd tk =>
  (pa_cons (ha X W gd tk) (hr X W gd tk) (hs _)).mono' fun σ H Q ⟨A, H₀, S, G, ρ, E, q⟩ => by
    have q : RA c S W σ H Q ((f ρ).bind fun x => (args fs ρ).bind fun xs => .ok (x :: xs)) := q
    refine rdE_bind (Z := RA c S W σ H Q) E q (fun j z => z) (fun z => z) fun x v H1 e r1 E1 q1 => ?_
    refine ⟨A, H₀, S, G, ρ, E1, ?_⟩
    cases z : args fs ρ with
    | ok ds =>
      rw [z] at q1
      exact fun vs H2 e2 r2 => q1 (v :: vs) H2 (e.trans e2) (.cons (r1.ext e2.n) r2)
    | exc j =>
      rw [z] at q1
      exact RX.ext e q1
    | stuck =>
      rw [z] at q1
      exact q1
/-! ### displays -/
theorem sf_lst (h : SA c N sc k es fs) : SF c N sc k (.List es pos) (eN dLst fs) := fun X W gd tk =>
  (pe_lst (h X W gd tk)).mono' fun σ H Q ⟨A, H₀, S, G, ρ, E, q⟩ => by
    refine rdA_bind (Z := RF c S W σ H Q) E q (fun j z => z) (fun z => z) fun ds vs H1 e r1 E1 q1 => ?_
    unfold dLst at q1
    split at q1
    · rename_i hl
      refine ⟨by rw [r1.length]; exact hl, fun p hp => ?_⟩
      exact q1 p _ (e.f p hp) (e.trans (Ext.new hp)) ⟨vs, upd_same, (r1.more hp).ext (Ext.new (T := c.T) hp).n⟩
    · exact q1.elim
theorem se_tup {j : Nat} (h : SA c N sc k es fs) : SE c N sc k (.Tuple es j pos) (eN dTup fs) := fun X W gd tk =>
  (pe_tup (h X W gd tk)).mono' fun σ H Q ⟨A, H₀, S, G, ρ, E, q⟩ => by
    refine rdA_bind (Z := RD c S W σ H Q) E q (fun j z => z) (fun z => z) fun ds vs H1 e r1 E1 q1 => ?_
    unfold dTup at q1
    split at q1
    · rename_i hl
      exact ⟨by rw [r1.length]; exact hl, fun p hp => rp_newT (q1.ext e) hp r1⟩
    · exact q1.elim
/-! ### what is built in -/
/-- a rule of the library serves a call -/
def COps (c : Cfg) (r : List V → Hp → VK → Prop) (op : List D → Res D) : Prop :=
  ∀ S W σ H vs ds Q, (∀ a, S a → H a ≠ none) → RpTs c.K H S vs ds → RD c S W σ H Q (op ds) → r vs H Q
theorem tCB_of {r : List V → Hp → VK → Prop} {op : List D → Res D} (ho : COps c r op) {W : WX} {σ : L2.St} {H : Hp} {Q : VK} (q : rdE c W (eN op fs) σ H Q) : tCB r (rdTA c W fs) σ H Q := by
  obtain ⟨A, H₀, S, G, ρ, E, q⟩ := q
  refine ⟨A, H₀, S, G, ρ, E, ?_⟩
  unfold eN at q
  cases z : args fs ρ with
  | ok ds =>
    rw [z] at q
    exact fun vs H1 e r1 => ho S W σ H1 vs ds Q (E.ext e).nS r1 (RD.ext (r := op ds) e q)
  | exc j =>
    rw [z] at q
    exact q
  | stuck =>
    rw [z] at q
    exact q
theorem se_callB {r : List V → Hp → VK → Prop} {op : List D → Res D} {id : String} {x : Str} {p : Pos} (hc : ∀ X, Good c N sc k X → CallR X (.builtin id) r) (ho : COps c r op) (hm : c.mg x = none) (hv : bootBuiltins x = some (.builtin id)) (ha : STA c N sc k (a :: es) (f :: fs))
    (hg : sc.names.lookup x = some .globalImplicit := by rfl) (hn : x ≠ "__name__" := by decide) (hdb : (x == ("__debug__" : Str)) = false := by decide)
    (he : ∀ env : PySem.Env, starEach (a :: es) env = (false, eval a env) :: starEach es env := by intro _; rfl) (hpl : ∀ env : PySem.Env, (backTo pos (starEach es env)).any (·.1) = false := by intro _; rfl) : SE c N sc k (.Call (.Name x p) (a :: es) [] pos) (eN op (f :: fs)) := fun X W gd tk =>
  (pe_callB (hc X gd) (gl_of gd hg) (by rw [gd.hmg]; exact hm) hv (ha X W gd tk) hn hdb (he _) (hpl _)).mono' fun σ H Q q => tCB_of ho q
theorem se_callTy {r : List V → Hp → VK → Prop} {op : List D → Res D} {id : String} {x : Str} {p : Pos} (hc : ∀ X, Good c N sc k X → CallR X (.type id) r) (ho : COps c r op) (hm : c.mg x = none) (hv : bootBuiltins x = some (.type id)) (ha : STA c N sc k (a :: es) (f :: fs))
    (hg : sc.names.lookup x = some .globalImplicit := by rfl) (hn : x ≠ "__name__" := by decide) (hdb : (x == ("__debug__" : Str)) = false := by decide)
    (he : ∀ env : PySem.Env, starEach (a :: es) env = (false, eval a env) :: starEach es env := by intro _; rfl) (hpl : ∀ env : PySem.Env, (backTo pos (starEach es env)).any (·.1) = false := by intro _; rfl) : SE c N sc k (.Call (.Name x p) (a :: es) [] pos) (eN op (f :: fs)) := fun X W gd tk =>
  (pe_callTy (hc X gd) (gl_of gd hg) (by rw [gd.hmg]; exact hm) hv (ha X W gd tk) hn hdb (he _) (hpl _)).mono' fun σ H Q q => tCB_of ho q
end
end NB
end

section
set_option Elab.async false
set_option linter.all false
set_option maxRecDepth 100000
/-! NBRule3: built-in functions, items, slices. -/
namespace NB
open PySem PySem.Spec PyProof.Rows L2
section
variable {c : Cfg} {N : List Str} {sc : Sco} {k : Nat}
theorem RpTs.one {K : PySem.W.Frag} {H : Hp} {S : Addr → Prop} {vs : List V} {d : D} (r : RpTs K H S vs [d]) : ∃ v, vs = [v] ∧ RpT K H S v d := by
  cases r with
  | cons r1 r2 => cases r2; exact ⟨_, rfl, r1⟩
theorem RpTs.two' {K : PySem.W.Frag} {H : Hp} {S : Addr → Prop} {vs : List V} {d e : D} (r : RpTs K H S vs [d, e]) : ∃ v u, vs = [v, u] ∧ RpT K H S v d ∧ RpT K H S u e := by
  cases r with
  | cons r1 r2 =>
    cases r2 with
    | cons r3 r4 => cases r4; exact ⟨_, _, rfl, r1, r3⟩
def CR.or (r r' : List V → Hp → VK → Prop) : List V → Hp → VK → Prop := fun xs H Q => r xs H Q ∨ r' xs H Q
/-! len -/
def rLen (c : Cfg) := CR.or (fun xs H Q => ∃ x n, xs = [x] ∧ LenV c.K x H n ∧ Q (.int n) H) (fun xs H Q => ∃ a kvs, xs = [V.ref a] ∧ H a = some (.dK kvs) ∧ Q (.int kvs.length) H)
theorem cr_len : ∀ X, Good c N sc k X → CallR X (.builtin "len") (rLen c) := fun X g => CallR.or (g.hK ▸ call_len) call_lenD
theorem co_len : COps c (rLen c) fLen := fun S W σ H vs ds Q nS r h => by
  unfold fLen at h
  split at h
  · obtain ⟨v, rfl, r1⟩ := r.one
    unfold dLen at h
    split at h
    · split at h
      · rename_i hl
        cases twoS r1
        refine .inl ⟨V.str (tx _), _, rfl, ⟨by rw [tx_len]; exact hl, rfl⟩, ?_⟩
        rw [tx_len]
        exact h _ H Ext.refl (.int _)
      · exact h.elim
    · obtain ⟨a, ws, rfl, q, ra⟩ := r1
      refine .inl ⟨_, ws.length, rfl, .inl ⟨ws, .inl (.inl q), rfl⟩, ?_⟩
      rw [ra.length]
      exact h _ H Ext.refl (.int _)
    · cases (show Rp c.K H S v _ from r1) with
      | tup q ra =>
        rename_i a ws
        refine .inl ⟨_, ws.length, rfl, .inr ⟨ws, q, rfl⟩, ?_⟩
        rw [ra.length]
        exact h _ H Ext.refl (.int _)
    · cases (show Rp c.K H S v _ from r1) with
      | fzl q ra =>
        rename_i a ws
        refine .inl ⟨_, ws.length, rfl, .inl ⟨ws, q.q, rfl⟩, ?_⟩
        rw [ra.length]
        exact h _ H Ext.refl (.int _)
    · obtain ⟨a, kvs, rfl, q, e, ra⟩ := r1
      refine .inr ⟨a, kvs, rfl, q, ?_⟩
      have hl := congrArg List.length e
      rw [List.length_map, List.length_map] at hl
      rw [hl]
      exact h _ H Ext.refl (.int _)
    · exact h.elim
  · exact h.elim
/-! max, min, abs of ints -/
theorem cr_max2 : ∀ X, Good c N sc k X → CallR X (.builtin "max") (fun xs H Q => ∃ i j, xs = [.int i, .int j] ∧ Q (.int (if j > i then j else i)) H) := fun X g => call_max2 g.calm
theorem co_max2 : COps c (fun xs H Q => ∃ i j, xs = [.int i, .int j] ∧ Q (.int (if j > i then j else i)) H) fMax2 := fun S W σ H vs ds Q nS r h => by
  unfold fMax2 at h
  split at h
  · obtain ⟨v, u, rfl, r1, r2⟩ := r.two'
    cases two r1
    cases two r2
    exact ⟨_, _, rfl, h _ H Ext.refl (.int _)⟩
  · exact h.elim
theorem cr_min2 : ∀ X, Good c N sc k X → CallR X (.builtin "min") (fun xs H Q => ∃ i j, xs = [.int i, .int j] ∧ Q (.int (if j < i then j else i)) H) := fun X g => call_min2 g.calm
theorem co_min2 : COps c (fun xs H Q => ∃ i j, xs = [.int i, .int j] ∧ Q (.int (if j < i then j else i)) H) fMin2 := fun S W σ H vs ds Q nS r h => by
  unfold fMin2 at h
  split at h
  · obtain ⟨v, u, rfl, r1, r2⟩ := r.two'
    cases two r1
    cases two r2
    exact ⟨_, _, rfl, h _ H Ext.refl (.int _)⟩
  · exact h.elim
theorem cr_abs : ∀ X, Good c N sc k X → CallR X (.builtin "abs") (fun xs H Q => ∃ i, xs = [.int i] ∧ Q (.int (if i < 0 then -i else i)) H) := fun X g => call_abs
theorem co_abs : COps c (fun xs H Q => ∃ i, xs = [.int i] ∧ Q (.int (if i < 0 then -i else i)) H) fAbs := fun S W σ H vs ds Q nS r h => by
  unfold fAbs at h
  split at h
  · obtain ⟨v, rfl, r1⟩ := r.one
    cases two r1
    exact ⟨_, rfl, h _ H Ext.refl (.int _)⟩
  · exact h.elim
/-! lists of ints, of truths -/
theorem ints_ok {K : PySem.W.Frag} {H : Hp} {S : Addr → Prop} : ∀ {vs : List V} {ds : List D} {ns : List Int}, intsOf ds = some ns → RpAll K H S vs ds → vs = ns.map V.int
  | _, [], _, h, .nil => by cases h; rfl
  | _, d :: ds, ns, h, .cons r q => by
    cases d with
    | int i =>
      have h : (intsOf ds).map (i :: ·) = some ns := h
      cases z : intsOf ds with
      | none => rw [z] at h; cases h
      | some ms =>
        rw [z] at h
        cases h
        cases r
        rw [ints_ok z q]
        rfl
    | _ => cases h
theorem bls_ok {K : PySem.W.Frag} {H : Hp} {S : Addr → Prop} : ∀ {vs : List V} {ds : List D} {ns : List Bool}, blsOf ds = some ns → RpAll K H S vs ds → vs = ns.map V.bl
  | _, [], _, h, .nil => by cases h; rfl
  | _, d :: ds, ns, h, .cons r q => by
    cases d with
    | bl i =>
      have h : (blsOf ds).map (i :: ·) = some ns := h
      cases z : blsOf ds with
      | none => rw [z] at h; cases h
      | some ms =>
        rw [z] at h
        cases h
        cases r
        rw [bls_ok z q]
        rfl
    | _ => cases h
theorem strs_ok {K : PySem.W.Frag} {H : Hp} {S : Addr → Prop} : ∀ {vs : List V} {ds : List D} {ns : List (List Nat)}, strsOf ds = some ns → RpAll K H S vs ds → vs = (ns.map tx).map V.str
  | _, [], _, h, .nil => by cases h; rfl
  | _, d :: ds, ns, h, .cons r q => by
    cases d with
    | str i =>
      have h : (strsOf ds).map (i :: ·) = some ns := h
      cases z : strsOf ds with
      | none => rw [z] at h; cases h
      | some ms =>
        rw [z] at h
        cases h
        cases r
        rw [strs_ok z q]
        rfl
    | _ => cases h
theorem sumI_ok : ∀ ns : List Int, sumI ns = ns.sum
  | [] => rfl
  | i :: r => by
    rw [List.sum_cons, ← sumI_ok r]
    rfl
theorem cr_sum' : ∀ X, Good c N sc k X → CallR X (.builtin "sum") (rSum c.K) := fun X g => g.hK ▸ cr_sum g.calm
theorem co_sum : COps c (rSum c.K) fSum := fun S W σ H vs ds Q nS r h => by
  unfold fSum at h
  split at h
  · split at h
    · rename_i ns z
      obtain ⟨v, rfl, a, ws, rfl, q, ra⟩ := r.one
      have e := ints_ok z ra
      refine ⟨a, ns, rfl, .inl (.inl (by rw [← e]; exact q)), ?_⟩
      rw [← sumI_ok]
      exact h _ H Ext.refl (.int _)
    · exact h.elim
  · exact h.elim
theorem cr_all' : ∀ X, Good c N sc k X → CallR X (.builtin "all") (rAll c.K) := fun X g => g.hK ▸ cr_all g.calm
theorem co_all : COps c (rAll c.K) fAll := fun S W σ H vs ds Q nS r h => by
  unfold fAll at h
  split at h
  · split at h
    · rename_i ns z
      obtain ⟨v, rfl, a, ws, rfl, q, ra⟩ := r.one
      have e := bls_ok z ra
      exact ⟨a, ns, rfl, .inl (.inl (by rw [← e]; exact q)), h _ H Ext.refl (.bl _)⟩
    · exact h.elim
  · exact h.elim
theorem cr_any' : ∀ X, Good c N sc k X → CallR X (.builtin "any") (rAny c.K) := fun X g => g.hK ▸ cr_any g.calm
theorem co_any : COps c (rAny c.K) fAny := fun S W σ H vs ds Q nS r h => by
  unfold fAny at h
  split at h
  · split at h
    · rename_i ns z
      obtain ⟨v, rfl, a, ws, rfl, q, ra⟩ := r.one
      have e := bls_ok z ra
      exact ⟨a, ns, rfl, .inl (.inl (by rw [← e]; exact q)), h _ H Ext.refl (.bl _)⟩
    · exact h.elim
  · exact h.elim
theorem foldl_max : ∀ (ns : List Int) (n m : Int), (m = n ∨ m ∈ ns) → (n ≤ m ∧ ∀ y ∈ ns, y ≤ m) → ns.foldl max n = m
  | [], n, m, h, _ => by
    rcases h with h | h
    · exact h.symm
    · cases h
  | x :: ns, n, m, h, ⟨h1, h2⟩ => by
    rw [List.foldl_cons]
    have hx := h2 x List.mem_cons_self
    refine foldl_max ns (max n x) m ?_ ⟨by omega, fun y hy => h2 y (List.mem_cons_of_mem _ hy)⟩
    rcases h with h | h
    · left
      omega
    · rcases List.mem_cons.mp h with h | h
      · left
        omega
      · exact .inr h
theorem foldl_min : ∀ (ns : List Int) (n m : Int), (m = n ∨ m ∈ ns) → (m ≤ n ∧ ∀ y ∈ ns, m ≤ y) → ns.foldl min n = m
  | [], n, m, h, _ => by
    rcases h with h | h
    · exact h.symm
    · cases h
  | x :: ns, n, m, h, ⟨h1, h2⟩ => by
    rw [List.foldl_cons]
    have hx := h2 x List.mem_cons_self
    refine foldl_min ns (min n x) m ?_ ⟨by omega, fun y hy => h2 y (List.mem_cons_of_mem _ hy)⟩
    rcases h with h | h
    · left
      omega
    · rcases List.mem_cons.mp h with h | h
      · left
        omega
      · exact .inr h
theorem cr_max' : ∀ X, Good c N sc k X → CallR X (.builtin "max") (rMax c.K) := fun X g => g.hK ▸ cr_max g.calm
theorem co_max : COps c (rMax c.K) fMax := fun S W σ H vs ds Q nS r h => by
  unfold fMax at h
  split at h
  · split at h
    · rename_i n ns z
      obtain ⟨v, rfl, a, ws, rfl, q, ra⟩ := r.one
      have e := ints_ok z ra
      refine ⟨a, n :: ns, rfl, .inl (.inl (by rw [← e]; exact q)), Nat.succ_pos _, fun m hm hle => ?_⟩
      rw [← foldl_max ns n m (List.mem_cons.mp hm) ⟨hle n List.mem_cons_self, fun y hy => hle y (List.mem_cons_of_mem _ hy)⟩]
      exact h _ H Ext.refl (.int _)
    · exact h.elim
  · exact h.elim
theorem cr_min' : ∀ X, Good c N sc k X → CallR X (.builtin "min") (rMin c.K) := fun X g => g.hK ▸ cr_min g.calm
theorem co_min : COps c (rMin c.K) fMin := fun S W σ H vs ds Q nS r h => by
  unfold fMin at h
  split at h
  · split at h
    · rename_i n ns z
      obtain ⟨v, rfl, a, ws, rfl, q, ra⟩ := r.one
      have e := ints_ok z ra
      refine ⟨a, n :: ns, rfl, .inl (.inl (by rw [← e]; exact q)), Nat.succ_pos _, fun m hm hle => ?_⟩
      rw [← foldl_min ns n m (List.mem_cons.mp hm) ⟨hle n List.mem_cons_self, fun y hy => hle y (List.mem_cons_of_mem _ hy)⟩]
      exact h _ H Ext.refl (.int _)
    · exact h.elim
  · exact h.elim
/-! list(x), tuple(x) of a list, a tuple -/
def fList' : List D → Res D
  | [.lst xs] => .ok (.lst xs)
  | [.tup xs] => .ok (.lst xs)
  | _ => .stuck
theorem cr_list : ∀ X, Good c N sc k X → CallR X (.type "list") (fun xs H Q => ∃ p ys, xs = [.ref p] ∧ (SqL c.K H p ys ∨ SqT c.K H p ys) ∧ ∀ l, H l = none → Q (.ref l) (upd H l (.lst ys))) := fun X g => g.hK ▸ call_list_of
theorem co_list : COps c (fun xs H Q => ∃ p ys, xs = [.ref p] ∧ (SqL c.K H p ys ∨ SqT c.K H p ys) ∧ ∀ l, H l = none → Q (.ref l) (upd H l (.lst ys))) fList' := fun S W σ H vs ds Q nS r h => by
  unfold fList' at h
  split at h
  · obtain ⟨v, rfl, a, ws, rfl, q, ra⟩ := r.one
    exact ⟨a, ws, rfl, .inl (.inl (.inl q)), fun l hl => rp_newL (W := W) (σ := σ) nS h hl ra⟩
  · obtain ⟨v, rfl, r1⟩ := r.one
    cases (show Rp c.K H S v _ from r1) with
    | tup q ra =>
      rename_i a ws
      exact ⟨a, ws, rfl, .inr q, fun l hl => rp_newL (W := W) (σ := σ) nS h hl ra⟩
  · exact h.elim
theorem cr_tuple : ∀ X, Good c N sc k X → CallR X (.type "tuple") (fun xs H Q => ∃ p ys, xs = [.ref p] ∧ ((SqL c.K H p ys ∧ ∀ l, H l = none → Q (.ref l) (upd H l (.tup ys))) ∨ (SqT c.K H p ys ∧ Q (.ref p) H))) := fun X g => g.hK ▸ call_tuple_of
theorem co_tuple : COps c (fun xs H Q => ∃ p ys, xs = [.ref p] ∧ ((SqL c.K H p ys ∧ ∀ l, H l = none → Q (.ref l) (upd H l (.tup ys))) ∨ (SqT c.K H p ys ∧ Q (.ref p) H))) fTuple := fun S W σ H vs ds Q nS r h => by
  unfold fTuple at h
  split at h
  · obtain ⟨v, rfl, a, ws, rfl, q, ra⟩ := r.one
    exact ⟨a, ws, rfl, .inl ⟨.inl (.inl q), fun l hl => rp_newT h hl ra⟩⟩
  · exact h.elim
end
/-! ### items, slices -/
section
variable {c : Cfg} {N : List Str} {sc : Sco} {k : Nat} {a b d ex : Expr} {f g h : DE} {pos p2 p3 : Pos}
theorem atD_eq {α : Type} (xs : List α) (i : Int) : atD xs i = atI xs i := rfl
theorem atD_rp {K : PySem.W.Frag} {H : Hp} {S : Addr → Prop} {vs : List V} {ds : List D} {i : Int} {d : D} (r : RpAll K H S vs ds) (h : atD ds i = some d) : ∃ v, atI vs i = some v ∧ Rp K H S v d := by
  unfold atD at h
  rw [← r.length] at h
  cases z : place vs.length i with
  | none => rw [z] at h; cases h
  | some j =>
    rw [z] at h
    have h : ds[j]? = some d := h
    obtain ⟨v, h1, h2⟩ := r.get h
    refine ⟨v, ?_, h2⟩
    show (place vs.length i).bind (fun j => vs[j]?) = some v
    rw [z]
    exact h1
theorem os_idx : Ops c (rIx c.K) (fun x y => match x with
    | .dic _ _ => .stuck
    | .fzd _ _ => .stuck
    | _ => dIdx x y) := fun S W σ H x y dx dy Q nS rx ry h => by
  have seq : ∀ {ds : List D} {i : Int}, RD c S W σ H Q (orS (atD ds i)) → ∃ d, atD ds i = some d ∧ ∀ v, Rp c.K H S v d → Q v H := fun {ds i} h => by
    cases z : atD ds i with
    | none => rw [z] at h; exact h.elim
    | some d =>
      rw [z] at h
      exact ⟨d, rfl, fun v r => h v H Ext.refl r⟩
  cases dx with
  | str z =>
    cases dy with
    | int i =>
      have h : RD c S W σ H Q (if z.length ≤ line then orS ((atD z i).map fun c => .str [c]) else .stuck) := h
      by_cases hl : z.length ≤ line
      · rw [if_pos hl] at h
        cases q : atD z i with
        | none => rw [q] at h; exact h.elim
        | some ch =>
          rw [q] at h
          refine .inr (.inr ⟨tx z, i, ch, twoS rx, two ry, by rw [tx_len]; exact hl, by rw [tx_cps]; exact q, ?_⟩)
          exact h _ H Ext.refl (.str [ch])
      · rw [if_neg hl] at h
        exact h.elim
    | _ => exact h.elim
  | lst ds =>
    cases dy with
    | int i =>
      obtain ⟨d, hd, q⟩ := seq h
      obtain ⟨p, vs, rfl, hp, ra⟩ := rx
      obtain ⟨v, h1, h2⟩ := atD_rp ra hd
      exact .inl ⟨p, vs, i, v, rfl, two ry, .inl (.inl hp), h1, q v h2⟩
    | _ => exact h.elim
  | tup ds =>
    cases dy with
    | int i =>
      obtain ⟨d, hd, q⟩ := seq h
      cases (show Rp c.K H S x _ from rx) with
      | tup hp ra =>
        rename_i p vs
        obtain ⟨v, h1, h2⟩ := atD_rp ra hd
        exact .inr (.inl ⟨p, vs, i, v, rfl, two ry, hp, h1, q v h2⟩)
    | _ => exact h.elim
  | fzl ds =>
    cases dy with
    | int i =>
      obtain ⟨d, hd, q⟩ := seq h
      cases (show Rp c.K H S x _ from rx) with
      | fzl hp ra =>
        rename_i p vs
        obtain ⟨v, h1, h2⟩ := atD_rp ra hd
        exact .inl ⟨p, vs, i, v, rfl, two ry, hp.q, h1, q v h2⟩
    | _ => exact h.elim
  | _ => exact h.elim
/-- a place of a sequence -/
theorem se_idx (ha : ST c N sc k a f) (hb : ST c N sc k b g) (hs : PlainIx b := by intro _ _; rfl) : SE c N sc k (.Subscript a b pos) (e2 dIx f g) := fun X W gd tk =>
  (pe_ix (gd.hK ▸ ix_seq) (ha X W gd tk) (hb X W gd tk) hs).mono' fun σ H Q q => tOp_of os_idx q
theorem cut_rp {K : PySem.W.Frag} {H : Hp} {S : Addr → Prop} {vs : List V} {ds : List D} (r : RpAll K H S vs ds) (lo hi : Option Int) : RpAll K H S (cutV vs lo hi) (cut ds lo hi) := by
  unfold cutV cut
  have e : vs.length = ds.length := r.length
  rw [e]
  exact (r.drop _).take _
/-- a part of a slice -/
def RPt (c : Cfg) (W : WX) (σ : L2.St) (H : Hp) (Q : Option Int → Hp → Prop) : Res (Option Int) → Prop
  | .ok o => ∀ H', Ext c.T H H' → Q o H'
  | .exc k => RX c W σ H k
  | .stuck => False
def rdP (c : Cfg) (W : WX) (f : Option DE) : TO := fun σ H Q => ∃ A H₀ S G ρ, EnvR c A H₀ S G σ H ρ ∧ RPt c W σ H Q (part f ρ)
def SPt (c : Cfg) (N : List Str) (sc : Sco) (k : Nat) (e : Option Expr) (f : Option DE) : Prop := ∀ X W, Good c N sc k X → L2N.Takes X W → PO X e (rdP c W f)
theorem PO_mono {X : Cx} {e : Option Expr} {t t' : TO} (h : PO X e t) (m : ∀ σ H Q, t' σ H Q → t σ H Q) : PO X e t' := ⟨fun pins s σ H Q I q => h.run pins s σ H Q I (m σ H Q q)⟩
theorem sp_none : SPt c N sc k none none := fun X W gd tk => PO_mono po_none fun σ H Q ⟨A, H₀, S, G, ρ, E, q⟩ => q H Ext.refl
theorem sp_some (ha : ST c N sc k a f) : SPt c N sc k (some a) (some f) := fun X W gd tk => PO_mono (po_some (ha X W gd tk)) fun σ H Q ⟨A, H₀, S, G, ρ, E, q⟩ => by
  refine rdT_bind (Z := RPt c W σ H Q) E q (fun j z => z) (fun z => z) fun d v H1 e r1 E1 h1 => ?_
  cases d with
  | int i => exact ⟨i, two r1, h1 H1 e⟩
  | _ => exact h1.elim
theorem rdP_bind {W : WX} {σ : L2.St} {H : Hp} {S : Addr → Prop} {A : Addr → Prop} {H₀ : Hp} {G : List (V × D)} {ρ : Env} {β : Type} {fo : Option DE} {k : Option Int → Res β} {Z : Res β → Prop} {R : Option Int → Hp → Prop} (E : EnvR c A H₀ S G σ H ρ) (h : Z ((part fo ρ).bind k)) (hx : ∀ j, Z (.exc j) → RX c W σ H j) (hs : ¬ Z .stuck)
    (hk : ∀ b H1, Ext c.T H H1 → EnvR c A H₀ S G σ H1 ρ → Z (k b) → R b H1) : rdP c W fo σ H R := by
  refine ⟨A, H₀, S, G, ρ, E, ?_⟩
  cases q : part fo ρ with
  | ok d =>
    rw [q] at h
    exact fun H1 e => hk d H1 e (E.ext e) h
  | exc j =>
    rw [q] at h
    exact hx j h
  | stuck =>
    rw [q] at h
    exact hs h
theorem sx_eq (n d : Nat) (o : Option Int) : sIx n d o = HT.sIx n d o := by cases o <;> rfl
theorem se_cut {lo hi : Option Expr} {fl fh : Option DE} (ha : ST c N sc k a f) (hl : SPt c N sc k lo fl) (hh : SPt c N sc k hi fh) : SE c N sc k (.Subscript a (.Slice lo hi none p2) pos) (eCut f fl fh) := fun X W gd tk =>
  (pe_slice (SlR.or sl_list (SlR.or sl_tupA sl_str)) (ha X W gd tk) (hl X W gd tk) (hh X W gd tk)).mono' fun σ H Q ⟨A, H₀, S, G, ρ, E, q⟩ => by
    refine rdT_bind (Z := RD c S W σ H Q) E q (fun j z => z) (fun z => z) fun x v H1 e1 r1 E1 q1 => ?_
    refine rdP_bind (Z := RD c S W σ H Q) E1 q1 (fun j z => RX.ext e1 z) (fun z => z) fun l H2 e2 E2 q2 => ?_
    refine rdP_bind (Z := RD c S W σ H Q) E2 q2 (fun j z => RX.ext (e1.trans e2) z) (fun z => z) fun u H3 e3 E3 q3 => ?_
    have q4 := RD.ext (e1.trans (e2.trans e3)) q3
    have r3 := r1.ext (e2.trans e3).n
    unfold dCut at q4
    rw [gd.hK]
    split at q4
    · split at q4
      · rename_i z hl
        cases twoS r3
        refine .inr (.inr ⟨tx z, rfl, by rw [tx_len]; exact hl, ?_⟩)
        have ec : cutS (tx z) l u = tx (cut z l u) := by
          unfold cutS cut
          rw [tx_cps, tx_len, sx_eq, sx_eq]
        rw [ec]
        exact q4 _ H3 Ext.refl (.str _)
      · exact q4.elim
    · obtain ⟨p, vs, rfl, hp, ra⟩ := r3
      exact .inl ⟨p, vs, rfl, .inl (.inl hp), fun p' hp' => rp_newL (W := W) (σ := σ) E3.nS q4 hp' (cut_rp ra l u)⟩
    · cases (show Rp c.K H3 S v _ from r3) with
      | tup hp ra =>
        rename_i ds p vs
        refine .inr (.inl ⟨p, vs, rfl, hp, fun hw => ?_, fun hw p' hp' => rp_newT q4 hp' (cut_rp ra l u)⟩)
        refine q4 _ H3 Ext.refl (.tup hp ?_)
        have e : cut ds l u = ds := by
          unfold cut
          rw [sx_eq, sx_eq, ← ra.length, hw.1, hw.2, ra.length]
          simp
        rw [e]
        exact ra
    · exact q4.elim
end
end NB
end

section
set_option Elab.async false
set_option linter.all false
set_option maxRecDepth 100000
/-! NBRule4: calls of defs, isinstance, what is walked, targets, comprehensions. -/
namespace NB
open PySem PySem.Spec PyProof.Rows L2

/-! ### what a def promises -/
def spD (c : Cfg) (n : Nat) (f : List D → Res D) : Sp := fun vs H Q E => ∃ (ds : List D) (A : Addr → Prop), ds.length = n ∧ RpAll c.K H A vs ds ∧ (∀ a, A a → ∃ o, H a = some o ∧ ∀ ps, o ≠ .tbl ps) ∧ LamX.Tabs c.T H ∧
  match f ds with
  | .ok d => ∀ v H', Ext c.T H H' → Rp c.K H' A v d → Q v H'
  | .exc k => ∀ H', Ext c.T H H' → E (.ref (c.xc k)) none H'
  | .stuck => False
section
variable {c : Cfg} {N : List Str} {sc : Sco} {k : Nat} {a b d ex : Expr} {f g h : DE} {fs : List DE} {pos : Pos} {es : List Expr}
theorem args_len {ρ : Env} : ∀ (gs : List DE) (xs : List D), args gs ρ = .ok xs → xs.length = gs.length
  | [], xs, z => by
    cases z
    rfl
  | g0 :: gs, xs, z => by
    have z : (g0 ρ).bind (fun x => (args gs ρ).bind fun xs => .ok (x :: xs)) = .ok xs := z
    cases z1 : g0 ρ with
    | ok y =>
      rw [z1] at z
      have z : (args gs ρ).bind (fun xs => .ok (y :: xs)) = .ok xs := z
      cases z2 : args gs ρ with
      | ok ys =>
        rw [z2] at z
        cases z
        rw [List.length_cons, List.length_cons, args_len gs ys z2]
      | exc _ => rw [z2] at z; cases z
      | stuck => rw [z2] at z; cases z
    | exc _ => rw [z1] at z; cases z
    | stuck => rw [z1] at z; cases z
/-- a def that may be called by the name x, at the level k, with n arguments -/
structure Callee (c : Cfg) (k : Nat) (x : Str) (n : Nat) (m : List D → Res D) : Prop where
  ex : ∃ (fa : Addr) (fd : FuncData) (ps : List Str), FnOk c.P c.w c.K c.mg c.base (L2N.CX c.P c.w) k fa fd ps (spD c n m) ∧ c.mg x = some (.ref fa) ∧ PySem.W.keepIn c.K (.ref fa) = true ∧ Binds c.K fd ps []
theorem Callee.mono {c : Cfg} {k k' : Nat} {x : Str} {n : Nat} {m : List D → Res D} (C : Callee c k x n m) (h : k ≤ k') : Callee c k' x n m := by
  obtain ⟨fa, fd, ps, F, h1, h2, h3⟩ := C.ex
  exact ⟨fa, fd, ps, F.mono h, h1, h2, h3⟩
theorem se_call {x : Str} {n : Nat} {p : Pos} {m : List D → Res D} (C : Callee c k x n m) (ha : SA c N sc k (a :: es) (f :: fs)) (hn : (f :: fs).length = n := by rfl)
    (hg : sc.names.lookup x = some .globalImplicit := by rfl) (hdb : (x == ("__debug__" : Str)) = false := by decide)
    (he : ∀ env : PySem.Env, starEach (a :: es) env = (false, eval a env) :: starEach es env := by intro _; rfl) (hpl : ∀ env : PySem.Env, (backTo pos (starEach es env)).any (·.1) = false := by intro _; rfl) : SE c N sc k (.Call (.Name x p) (a :: es) [] pos) (eN m (f :: fs)) := fun X W gd tk => by
  obtain ⟨fa, fd, ps, F, h1, h2, h3⟩ := C.ex
  have F' : FnOk X.prog X.w X.K X.mg X.base (L2N.CX X.prog X.w) k fa fd ps (spD c n m) := by
    rw [gd.hP, gd.hw, gd.hK, gd.hmg, gd.hb]
    exact F
  refine (pe_callS F' gd.room (gl_of gd hg) (by rw [gd.hmg]; exact h1) (by rw [gd.hK]; exact h2) (by rw [gd.hK]; exact h3) (fun σ => L2N.passAt tk σ) (ha X W gd tk) hdb (he _) (hpl _)).mono' fun σ H Q ⟨A, H₀, S, G, ρ, E, q⟩ => ?_
  refine ⟨A, H₀, S, G, ρ, E, ?_⟩
  unfold eN at q
  cases z0 : args (f :: fs) ρ with
  | exc j =>
    rw [z0] at q
    exact q
  | stuck =>
    rw [z0] at q
    exact q
  | ok ds =>
  rw [z0] at q
  have q1 : RD c S W σ H Q (m ds) := q
  intro vs H1 e r1
  have E1 := E.ext e
  have hl : ds.length = n := (args_len _ _ z0).trans hn
  refine ⟨ds, S, hl, r1, E1.hS, E1.tb, ?_⟩
  have q2 := RD.ext (r := m ds) e q1
  cases z : m ds with
  | ok d =>
    rw [z] at q2
    exact q2
  | exc j =>
    rw [z] at q2
    exact q2
  | stuck =>
    rw [z] at q2
    exact q2
/-- f() -/
theorem se_call0 {x : Str} {p : Pos} {m : List D → Res D} (C : Callee c k x 0 m) (hg : sc.names.lookup x = some .globalImplicit := by rfl) (hdb : (x == ("__debug__" : Str)) = false := by decide) : SE c N sc k (.Call (.Name x p) [] [] pos) (eN m []) := fun X W gd tk => by
  obtain ⟨fa, fd, ps, F, h1, h2, h3⟩ := C.ex
  have F' : FnOk X.prog X.w X.K X.mg X.base (L2N.CX X.prog X.w) k fa fd ps (spD c 0 m) := by
    rw [gd.hP, gd.hw, gd.hK, gd.hmg, gd.hb]
    exact F
  refine ⟨fun pins s σ H Q I ⟨A, H₀, S, G, ρ, E, q⟩ => ?_⟩
  refine wpAny_Call_Name_kw (ld_glob I (gl_of gd hg) (by rw [gd.hmg]; exact h1) ?_ hdb)
  refine PySem.W.callWith_K0 (first := []) I.kIn (by rw [gd.hK]; exact h2) (L2.run_fnS (us := []) (vs := []) (E := WE W) F' gd.room (by rw [gd.hK]; exact h3) (L2N.passAt tk σ) I .nil ?_)
  refine ⟨[], S, rfl, .nil, E.hS, E.tb, ?_⟩
  have q1 : RD c S W σ H Q (m []) := q
  cases z : m [] with
  | ok d =>
    rw [z] at q1
    exact q1
  | exc j =>
    rw [z] at q1
    exact q1
  | stuck =>
    rw [z] at q1
    exact q1
/-! ### isinstance by a built-in class -/
theorem tyX_of {K : PySem.W.Frag} {H : Hp} {S : Addr → Prop} {v : V} {d : D} (r : RpT K H S v d) : (∃ i, d = .int i ∧ TyX K H v (.type "int")) ∨ (∃ b, d = .bl b ∧ TyX K H v (.type "bool")) ∨ (∃ x, d = .str x ∧ TyX K H v (.type "str")) ∨ (∃ xs, (d = .lst xs ∨ d = .fzl xs) ∧ TyX K H v (.type "list")) ∨ (∃ xs, d = .tup xs ∧ TyX K H v (.type "tuple")) ∨
    (d = .non ∧ TyX K H v (.type "NoneType")) ∨ (∃ ks vs, (d = .dic ks vs ∨ d = .fzd ks vs) ∧ TyX K H v (.type "dict")) ∨ (∃ e, d = .exo e) ∨ ∃ n cs, d = .clo n cs := by
  cases d with
  | int i => cases two r; exact .inl ⟨i, rfl, .base (.int i)⟩
  | bl b => cases twoB r; exact .inr (.inl ⟨b, rfl, .base (.bl b)⟩)
  | str x => cases twoS r; exact .inr (.inr (.inl ⟨x, rfl, .base (.str _)⟩))
  | lst xs =>
    obtain ⟨a, vs, rfl, q, ra⟩ := r
    exact .inr (.inr (.inr (.inl ⟨xs, .inl rfl, .base (.lst q)⟩)))
  | fzl xs =>
    cases (show Rp K H S v _ from r) with
    | fzl q ra =>
      rcases q with ⟨o, q⟩ | ⟨o, its, n, h1, h2, _⟩
      · exact .inr (.inr (.inr (.inl ⟨xs, .inr rfl, .base (.frz q)⟩)))
      · exact .inr (.inr (.inr (.inl ⟨xs, .inr rfl, .kList h1 h2⟩)))
  | tup xs =>
    cases (show Rp K H S v _ from r) with
    | tup q ra =>
      rcases q with (q | ⟨o, q⟩) | ⟨o, its, n, h1, h2, _⟩
      · exact .inr (.inr (.inr (.inr (.inl ⟨xs, rfl, .base (.tup q)⟩))))
      · exact .inr (.inr (.inr (.inr (.inl ⟨xs, rfl, .fTuple q⟩))))
      · exact .inr (.inr (.inr (.inr (.inl ⟨xs, rfl, .kTuple h1 h2⟩))))
  | non => cases twoN r; exact .inr (.inr (.inr (.inr (.inr (.inl ⟨rfl, .base .non⟩)))))
  | dic ks vs =>
    obtain ⟨a, kvs, rfl, q, _⟩ := r
    exact .inr (.inr (.inr (.inr (.inr (.inr (.inl ⟨ks, vs, .inl rfl, .base (.dK q)⟩))))))
  | fzd ks vs =>
    cases (show Rp K H S v _ from r) with
    | fzd q _ _ => exact .inr (.inr (.inr (.inr (.inr (.inr (.inl ⟨ks, vs, .inr rfl, .fDict q⟩))))))
  | exo e => exact .inr (.inr (.inr (.inr (.inr (.inr (.inr (.inl ⟨e, rfl⟩)))))))
  | clo n cs => exact .inr (.inr (.inr (.inr (.inr (.inr (.inr (.inr ⟨n, cs, rfl⟩)))))))
/-- what isinstance says by the class T -/
structure IsT (T : String) (op : D → Res D) : Prop where
  i : ∃ b, kitB "int" T = some b ∧ ∀ x, op (.int x) = .ok (.bl b)
  b : ∃ b, kitB "bool" T = some b ∧ ∀ x, op (.bl x) = .ok (.bl b)
  s : ∃ b, kitB "str" T = some b ∧ ∀ x, op (.str x) = .ok (.bl b)
  l : ∃ b, kitB "list" T = some b ∧ ∀ x, op (.lst x) = .ok (.bl b) ∧ op (.fzl x) = .ok (.bl b)
  t : ∃ b, kitB "tuple" T = some b ∧ ∀ x, op (.tup x) = .ok (.bl b)
  n : ∃ b, kitB "NoneType" T = some b ∧ op .non = .ok (.bl b)
  d : ∃ b, kitB "dict" T = some b ∧ ∀ x y, op (.dic x y) = .ok (.bl b) ∧ op (.fzd x y) = .ok (.bl b)
  x : ∀ e, op (.exo e) = .stuck
  c : ∀ n cs, op (.clo n cs) = .stuck
theorem se_isi {T : String} {op : D → Res D} {T' : Str} {p p2 : Pos} (t : IsT T op) (hm : c.mg "isinstance" = none) (hm2 : c.mg T' = none) (hv : bootBuiltins T' = some (.type T)) (ha : ST c N sc k a f)
    (hg : sc.names.lookup ("isinstance" : Str) = some .globalImplicit := by rfl) (hg2 : sc.names.lookup T' = some .globalImplicit := by rfl) (hn : T' ≠ "__name__" := by decide) (hdb : (T' == ("__debug__" : Str)) = false := by decide)
    (hs : ∀ env : PySem.Env, starEach (a :: [.Name T' p2]) env = (false, eval a env) :: starEach [.Name T' p2] env := by intro _; rfl) : SE c N sc k (.Call (.Name "isinstance" p) [a, .Name T' p2] [] pos) (e1 op f) := fun X W gd tk => by
  refine (pe_callB call_isi (gl_of gd hg) (by rw [gd.hmg]; exact hm) (by decide +kernel) (pa_cons (ha X W gd tk) (pa_cons (pe_bltn (v := .ty T) (gl_of gd hg2) (by rw [gd.hmg]; exact hm2) hv rfl hn hdb) pa_nil) (hs _)) (he := hs _) (hpl := rfl)).mono' fun σ H Q ⟨A, H₀, S, G, ρ, E, q⟩ => ?_
  refine rdT_bind (Z := RD c S W σ H Q) E q (fun j z => z) (fun z => z) fun d v H1 e r1 E1 q1 => ?_
  have fin : ∀ {T1 : String} {b : Bool}, TyX c.K H1 v (.type T1) → kitB T1 T = some b → op d = .ok (.bl b) → rIsi X.K [v, .ty T] H1 Q := fun {T1 b} ty hk ho => by
    rw [ho] at q1
    refine ⟨v, .ty T, .type T1, .type T, b, rfl, ?_, by rw [gd.hK]; exact ty, kit_ty hk, q1 _ H1 e (.bl b)⟩
    exact ClsV.ty T
  rcases tyX_of r1 with ⟨i, rfl, ty⟩ | ⟨i, rfl, ty⟩ | ⟨i, rfl, ty⟩ | ⟨i, he, ty⟩ | ⟨i, rfl, ty⟩ | ⟨rfl, ty⟩ | ⟨i, j, he, ty⟩ | ⟨i, rfl⟩ | ⟨i, j, rfl⟩
  · obtain ⟨b, h1, h2⟩ := t.i
    exact fin ty h1 (h2 _)
  · obtain ⟨b, h1, h2⟩ := t.b
    exact fin ty h1 (h2 _)
  · obtain ⟨b, h1, h2⟩ := t.s
    exact fin ty h1 (h2 _)
  · obtain ⟨b, h1, h2⟩ := t.l
    rcases he with rfl | rfl
    · exact fin ty h1 (h2 _).1
    · exact fin ty h1 (h2 _).2
  · obtain ⟨b, h1, h2⟩ := t.t
    exact fin ty h1 (h2 _)
  · obtain ⟨b, h1, h2⟩ := t.n
    exact fin ty h1 h2
  · obtain ⟨b, h1, h2⟩ := t.d
    rcases he with rfl | rfl
    · exact fin ty h1 (h2 _ _).1
    · exact fin ty h1 (h2 _ _).2
  · rw [t.x] at q1
    exact q1.elim
  · rw [t.c] at q1
    exact q1.elim
theorem is_int : IsT "int" isInt := ⟨⟨true, by decide +kernel, fun _ => rfl⟩, ⟨true, by decide +kernel, fun _ => rfl⟩, ⟨false, by decide +kernel, fun _ => rfl⟩, ⟨false, by decide +kernel, fun _ => ⟨rfl, rfl⟩⟩, ⟨false, by decide +kernel, fun _ => rfl⟩, ⟨false, by decide +kernel, rfl⟩, ⟨false, by decide +kernel, fun _ _ => ⟨rfl, rfl⟩⟩, fun _ => rfl, fun _ _ => rfl⟩
theorem is_bool : IsT "bool" isBool := ⟨⟨false, by decide +kernel, fun _ => rfl⟩, ⟨true, by decide +kernel, fun _ => rfl⟩, ⟨false, by decide +kernel, fun _ => rfl⟩, ⟨false, by decide +kernel, fun _ => ⟨rfl, rfl⟩⟩, ⟨false, by decide +kernel, fun _ => rfl⟩, ⟨false, by decide +kernel, rfl⟩, ⟨false, by decide +kernel, fun _ _ => ⟨rfl, rfl⟩⟩, fun _ => rfl, fun _ _ => rfl⟩
theorem is_str' : IsT "str" isStr := ⟨⟨false, by decide +kernel, fun _ => rfl⟩, ⟨false, by decide +kernel, fun _ => rfl⟩, ⟨true, by decide +kernel, fun _ => rfl⟩, ⟨false, by decide +kernel, fun _ => ⟨rfl, rfl⟩⟩, ⟨false, by decide +kernel, fun _ => rfl⟩, ⟨false, by decide +kernel, rfl⟩, ⟨false, by decide +kernel, fun _ _ => ⟨rfl, rfl⟩⟩, fun _ => rfl, fun _ _ => rfl⟩
theorem is_list : IsT "list" isList := ⟨⟨false, by decide +kernel, fun _ => rfl⟩, ⟨false, by decide +kernel, fun _ => rfl⟩, ⟨false, by decide +kernel, fun _ => rfl⟩, ⟨true, by decide +kernel, fun _ => ⟨rfl, rfl⟩⟩, ⟨false, by decide +kernel, fun _ => rfl⟩, ⟨false, by decide +kernel, rfl⟩, ⟨false, by decide +kernel, fun _ _ => ⟨rfl, rfl⟩⟩, fun _ => rfl, fun _ _ => rfl⟩
theorem is_tuple : IsT "tuple" isTuple := ⟨⟨false, by decide +kernel, fun _ => rfl⟩, ⟨false, by decide +kernel, fun _ => rfl⟩, ⟨false, by decide +kernel, fun _ => rfl⟩, ⟨false, by decide +kernel, fun _ => ⟨rfl, rfl⟩⟩, ⟨true, by decide +kernel, fun _ => rfl⟩, ⟨false, by decide +kernel, rfl⟩, ⟨false, by decide +kernel, fun _ _ => ⟨rfl, rfl⟩⟩, fun _ => rfl, fun _ _ => rfl⟩
end
end NB
end

section
set_option Elab.async false
set_option linter.all false
set_option maxRecDepth 100000
/-! NBRule5: what is walked, targets, comprehensions. -/
namespace NB
open PySem PySem.Spec PyProof.Rows L2

/-- J walks ds, as long as the ghosts stand -/
def ItOk (c : Cfg) (J : It) (G : List (V × D)) (ds : List D) : Prop :=
  ∀ (i : Nat) (H : Hp) (S : Addr → Prop), (∀ a, S a → H a ≠ none) → (∀ p ∈ G, Rp c.K H S p.1 p.2) →
    (∀ d, ds[i]? = some d → J.go i H ∧ ∀ x H', J.yld i H x H' → Ext c.T H H' ∧ Rp c.K H' S x d) ∧ (i = ds.length → J.stop i H)
def RI (c : Cfg) (S : Addr → Prop) (W : WX) (σ : L2.St) (H : Hp) (R : It → Hp → Prop) : Res (List D) → Prop
  | .ok ds => ∀ J H' G, Ext c.T H H' → (∀ p ∈ G, Rp c.K H' S p.1 p.2) → ItOk c J G ds → R J H'
  | .exc k => RX c W σ H k
  | .stuck => False
def rdI (c : Cfg) (W : WX) (f : DI) : TI := fun σ H R => ∃ A H₀ S G ρ, EnvR c A H₀ S G σ H ρ ∧ RI c S W σ H R (f ρ)
def SI (c : Cfg) (N : List Str) (sc : Sco) (k : Nat) (tg it : Expr) (f : DI) : Prop := ∀ X W, Good c N sc k X → L2N.Takes X W → PI X tg it (rdI c W f)
theorem PI_mono {X : Cx} {tg e : Expr} {t t' : TI} (h : PI X tg e t) (m : ∀ σ H R, t' σ H R → t σ H R) : PI X tg e t' := ⟨fun pins s σ H R I q => h.run pins s σ H R I (m σ H R q)⟩
theorem PI_or {X : Cx} {tg e : Expr} {t t' : TI} (h : PI X tg e t) (h' : PI X tg e t') : PI X tg e (fun σ H R => t σ H R ∨ t' σ H R) := ⟨fun pins s σ H R I q => q.elim (h.run pins s σ H R I) (h'.run pins s σ H R I)⟩
section
variable {c : Cfg} {N : List Str} {sc : Sco} {k : Nat} {a b tg ex : Expr} {f g : DE} {pos : Pos}
theorem itOk_list {p : Addr} {ds : List D} : ItOk c (Itl c.K p) [(.ref p, .lst ds)] ds := fun i H S nS hg => by
  have r := hg _ List.mem_cons_self
  cases r with
  | lst n q ra =>
    rename_i vs
    refine ⟨fun d hd => ?_, fun hl => ⟨vs, .inl (.inl q), by rw [ra.length]; exact Nat.le_of_eq hl.symm⟩⟩
    obtain ⟨v, h1, h2⟩ := ra.get hd
    refine ⟨⟨vs, v, .inl (.inl q), h1⟩, fun x H' y => ?_⟩
    obtain ⟨rfl, y⟩ := y
    have e := y vs (.inl (.inl q))
    rw [h1] at e
    cases e
    exact ⟨Ext.refl, h2⟩
theorem itOk_fzl {p : Addr} {ds : List D} : ItOk c (Itl c.K p) [(.ref p, .fzl ds)] ds := fun i H S nS hg => by
  have r := hg _ List.mem_cons_self
  cases r with
  | fzl q ra =>
    rename_i vs
    refine ⟨fun d hd => ?_, fun hl => ⟨vs, q.q, by rw [ra.length]; exact Nat.le_of_eq hl.symm⟩⟩
    obtain ⟨v, h1, h2⟩ := ra.get hd
    refine ⟨⟨vs, v, q.q, h1⟩, fun x H' y => ?_⟩
    obtain ⟨rfl, y⟩ := y
    have e := y vs q.q
    rw [h1] at e
    cases e
    exact ⟨Ext.refl, h2⟩
theorem itOk_tup {p : Addr} {ds : List D} : ItOk c (Itt c.K p) [(.ref p, .tup ds)] ds := fun i H S nS hg => by
  have r := hg _ List.mem_cons_self
  cases r with
  | tup q ra =>
    rename_i vs
    refine ⟨fun d hd => ?_, fun hl => ⟨vs, q, by rw [ra.length]; exact Nat.le_of_eq hl.symm⟩⟩
    obtain ⟨v, h1, h2⟩ := ra.get hd
    refine ⟨⟨vs, v, q, h1⟩, fun x H' y => ?_⟩
    obtain ⟨rfl, y⟩ := y
    have e := y vs q
    rw [h1] at e
    cases e
    exact ⟨Ext.refl, h2⟩
theorem itOk_str {z : List Nat} : ItOk c (Its (tx z)) [] (z.map fun ch => .str [ch]) := fun i H S nS hg => by
  have hsz : (tx z).cps.size = z.length := by
    show z.toArray.size = z.length
    rw [List.size_toArray]
  refine ⟨fun d hd => ?_, fun hl => ?_⟩
  · rw [List.getElem?_map] at hd
    cases q : z[i]? with
    | none => rw [q] at hd; cases hd
    | some ch =>
      rw [q] at hd
      cases hd
      have hi : i < z.length := (List.getElem?_eq_some_iff.mp q).1
      refine ⟨by show i < (tx z).cps.size; rw [hsz]; exact hi, fun x H' y => ?_⟩
      obtain ⟨rfl, ch', hc, rfl⟩ := y
      have hc : z.toArray[i]? = some ch' := hc
      rw [List.getElem?_toArray, q] at hc
      cases hc
      exact ⟨Ext.refl, .str [ch]⟩
  · rw [List.length_map] at hl
    show (tx z).cps.size ≤ i
    rw [hsz]
    exact Nat.le_of_eq hl.symm
theorem range_get : ∀ (n : Nat) (lo : Int) (i : Nat), (rangeL lo n)[i]? = if i < n then some (.int (lo + i)) else none
  | 0, lo, i => by simp [rangeL]
  | n + 1, lo, 0 => by simp [rangeL]
  | n + 1, lo, i + 1 => by
    show (rangeL (lo + 1) n)[i]? = _
    rw [range_get n (lo + 1) i]
    by_cases h : i < n
    · rw [if_pos h, if_pos (by omega)]
      congr 2
      omega
    · rw [if_neg h, if_neg (by omega)]
theorem range_len : ∀ (n : Nat) (lo : Int), (rangeL lo n).length = n
  | 0, _ => rfl
  | n + 1, lo => by
    show (rangeL (lo + 1) n).length + 1 = n + 1
    rw [range_len n]
theorem itOk_range {lo : Int} {n : Nat} : ItOk c (Itr lo n) [] (rangeL lo n) := fun i H S nS hg => by
  refine ⟨fun d hd => ?_, fun hl => ?_⟩
  · rw [range_get] at hd
    split at hd
    · rename_i hi
      cases hd
      refine ⟨hi, fun x H' y => ?_⟩
      obtain ⟨rfl, rfl⟩ := y
      exact ⟨Ext.refl, .int _⟩
    · cases hd
  · rw [range_len] at hl
    exact Nat.le_of_eq hl.symm
theorem down_get : ∀ (n : Nat) (hi : Int) (i : Nat), (downL hi n)[i]? = if i < n then some (.int (hi - i)) else none
  | 0, hi, i => by simp [downL]
  | n + 1, hi, 0 => by simp [downL]
  | n + 1, hi, i + 1 => by
    show (downL (hi - 1) n)[i]? = _
    rw [down_get n (hi - 1) i]
    by_cases h : i < n
    · rw [if_pos h, if_pos (by omega)]
      congr 2
      omega
    · rw [if_neg h, if_neg (by omega)]
theorem down_len : ∀ (n : Nat) (hi : Int), (downL hi n).length = n
  | 0, _ => rfl
  | n + 1, hi => by
    show (downL (hi - 1) n).length + 1 = n + 1
    rw [down_len n]
theorem itOk_down {lo : Int} {n : Nat} : ItOk c (Itc lo (-1) n) [] (downL lo n) := fun i H S nS hg => by
  refine ⟨fun d hd => ?_, fun hl => ?_⟩
  · rw [down_get] at hd
    split at hd
    · rename_i hi
      cases hd
      refine ⟨hi, fun x H' y => ?_⟩
      obtain ⟨rfl, rfl⟩ := y
      refine ⟨Ext.refl, ?_⟩
      rw [show lo + (i : Nat) * (-1 : Int) = lo - i by omega]
      exact .int _
    · cases hd
  · rw [down_len] at hl
    exact Nat.le_of_eq hl.symm
/-- a list, a tuple, a text -/
theorem si_seq (ha : SE c N sc k a f) : SI c N sc k tg a (iSeq f) := fun X W gd tk =>
  PI_mono (PI_or (pi_list (ha X W gd tk)) (PI_or (pi_tup (ha X W gd tk)) (pi_str (ha X W gd tk)))) fun σ H R ⟨A, H₀, S, G, ρ, E, q⟩ => by
    unfold iSeq at q
    cases z : f ρ with
    | exc j =>
      rw [z] at q
      refine .inl ⟨A, H₀, S, G, ρ, E, ?_⟩
      rw [z]
      exact q
    | stuck =>
      rw [z] at q
      exact q.elim
    | ok d =>
      rw [z] at q
      cases d with
      | lst ds =>
        have q : RI c S W σ H R (.ok ds) := q
        refine .inl ⟨A, H₀, S, G, ρ, E, ?_⟩
        rw [z]
        intro v H1 e r
        cases r with
        | lst n hq ra =>
          rename_i p vs
          refine ⟨p, rfl, ⟨vs, .inl (.inl hq)⟩, ?_⟩
          rw [gd.hK]
          exact q _ H1 [(.ref p, .lst ds)] e (fun y hy => by
            rw [List.mem_singleton] at hy
            subst hy
            exact .lst n hq ra) itOk_list
      | tup ds =>
        have q : RI c S W σ H R (.ok ds) := q
        refine .inr (.inl ⟨A, H₀, S, G, ρ, E, ?_⟩)
        rw [z]
        intro v H1 e r
        cases r with
        | tup hq ra =>
          rename_i p vs
          refine ⟨p, rfl, ⟨vs, by rw [gd.hK]; exact hq⟩, ?_⟩
          rw [gd.hK]
          exact q _ H1 [(.ref p, .tup ds)] e (fun y hy => by
            rw [List.mem_singleton] at hy
            subst hy
            exact .tup hq ra) itOk_tup
      | str w =>
        have q : RI c S W σ H R (.ok (w.map fun ch => .str [ch])) := q
        refine .inr (.inr ⟨A, H₀, S, G, ρ, E, ?_⟩)
        rw [z]
        intro v H1 e r
        cases r
        exact ⟨tx w, rfl, q _ H1 [] e (fun y hy => nomatch hy) itOk_str⟩
      | _ => exact q.elim
theorem big_eq : (2 : Int) ^ 62 = big := by decide
theorem si_range1 {p : Pos} (hm : c.mg "range" = none) (ha : ST c N sc k a f) (hg : sc.names.lookup ("range" : Str) = some .globalImplicit := by rfl) (hs : ∀ env : PySem.Env, starEach [a] env = [(false, eval a env)] := by intro _; rfl)
    (hs' : ∀ env : PySem.Env, starEach [a] env = (false, eval a env) :: starEach [] env := by intro _; rfl) : SI c N sc k tg (.Call (.Name "range" p) [a] [] pos) (iRange1 f) := fun X W gd tk =>
  PI_mono (pi_range1 (gl_of gd hg) (by rw [gd.hmg]; exact hm) (pa_cons (ha X W gd tk) pa_nil (hs' _)) (hs _)) fun σ H R ⟨A, H₀, S, G, ρ, E, q⟩ => by
    refine rdT_bind (Z := RI c S W σ H R) E q (fun j z => z) (fun z => z) fun x v H1 e r1 E1 q1 => ?_
    cases x with
    | int n =>
      cases two r1
      have q1 : RI c S W σ H R (rg 0 n) := q1
      unfold rg at q1
      split at q1
      · rename_i hb
        refine ⟨n, rfl, by rw [big_eq]; exact hb.2.2.1, by rw [big_eq]; exact hb.2.2.2, ?_⟩
        rw [show (n - 0).toNat = n.toNat by omega] at q1
        exact q1 _ H1 [] e (fun y hy => nomatch hy) itOk_range
      · exact q1.elim
    | _ => exact q1.elim
theorem si_range2 {p : Pos} (hm : c.mg "range" = none) (ha : ST c N sc k a f) (hb : ST c N sc k b g) (hg : sc.names.lookup ("range" : Str) = some .globalImplicit := by rfl)
    (hs : ∀ env : PySem.Env, starEach [a, b] env = [(false, eval a env), (false, eval b env)] := by intro _; rfl) (hs2 : ∀ env : PySem.Env, starEach [b] env = [(false, eval b env)] := by intro _; rfl) : SI c N sc k tg (.Call (.Name "range" p) [a, b] [] pos) (iRange2 f g) := fun X W gd tk =>
  PI_mono (pi_range2 (gl_of gd hg) (by rw [gd.hmg]; exact hm) (pa_cons (ha X W gd tk) (pa_cons (hb X W gd tk) pa_nil (by rw [hs2] <;> rfl)) (by rw [hs, hs2])) (hs _) (hs2 _)) fun σ H R ⟨A, H₀, S, G, ρ, E, q⟩ => by
    refine rdT_bind (Z := RI c S W σ H R) E q (fun j z => z) (fun z => z) fun x v H1 e r1 E1 q1 => ?_
    refine rdT_bind (Z := RI c S W σ H R) E1 q1 (fun j z => RX.ext e z) (fun z => z) fun y u H2 e2 r2 E2 q2 => ?_
    cases x with
    | int i =>
      cases y with
      | int j =>
        cases two r1
        cases two r2
        have q2 : RI c S W σ H R (rg i j) := q2
        unfold rg at q2
        split at q2
        · rename_i hb
          exact ⟨i, j, rfl, by rw [big_eq]; exact hb, q2 _ H2 [] (e.trans e2) (fun y hy => nomatch hy) itOk_range⟩
        · exact q2.elim
      | _ => exact q2.elim
    | _ => exact q2.elim
end
/-! ### targets -/
theorem wipe_get {σ : L2.St} {i : Nat} : ∀ {vs : List Nat}, (L2.wipe σ vs)[i]? = if i ∈ vs then (σ[i]?).map (fun _ => none) else σ[i]?
  | [] => by rw [if_neg (by simp)]; rfl
  | v :: vs => by
    have ih := wipe_get (σ := σ) (i := i) (vs := vs)
    unfold L2.wipe
    by_cases e : v = i
    · subst e
      rw [if_pos List.mem_cons_self]
      by_cases hv : v < σ.length
      · rw [List.getElem?_set_self (by rw [wipe_length]; exact hv), List.getElem?_eq_getElem hv]
        rfl
      · rw [List.getElem?_eq_none (by rw [List.length_set, wipe_length]; omega), List.getElem?_eq_none (by omega)]
        rfl
    · rw [List.getElem?_set_ne e, ih]
      by_cases h : i ∈ vs
      · rw [if_pos h, if_pos (List.mem_cons_of_mem _ h)]
      · rw [if_neg h, if_neg fun z => h ((List.mem_cons.mp z).resolve_left fun y => e y.symm)]
theorem wipe_idem {σ : L2.St} {vs : List Nat} : L2.wipe (L2.wipe σ vs) vs = L2.wipe σ vs := by
  apply List.ext_getElem?
  intro i
  rw [wipe_get, wipe_get]
  by_cases h : i ∈ vs
  · rw [if_pos h, if_pos h, Option.map_map]
    rfl
  · rw [if_neg h]
def rdG (c : Cfg) (vs : List Nat) (g : DG) : TG := fun v σ H Q => ∃ A H₀ S G ρ d, EnvR c A H₀ S G σ H ρ ∧ Rp c.K H S v d ∧ match g d ρ with
  | .ok ρ' => ∀ σ', EnvR c A H₀ S G σ' H ρ' → L2.wipe σ' vs = L2.wipe σ vs → Q σ' H
  | _ => False
def SG (c : Cfg) (N : List Str) (sc : Sco) (k : Nat) (top : Str → Bool) (vs : List Nat) (tg : Expr) (g : DG) : Prop := ∀ X, Good c N sc k X → (∀ x, top x = true → X.fn x = true) → PG X tg (rdG c vs g)
theorem wipe_set {σ : L2.St} {i : Nat} {v : Option V} : ∀ {vs : List Nat}, i ∈ vs → L2.wipe (σ.set i v) vs = L2.wipe σ vs
  | [], h => by cases h
  | j :: vs, h => by
    unfold L2.wipe
    by_cases e : i ∈ vs
    · rw [wipe_set e]
    · have ej : i = j := (List.mem_cons.mp h).resolve_right e
      subst ej
      have : ∀ (ws : List Nat) (σ : L2.St), i ∉ ws → L2.wipe (σ.set i v) ws = (L2.wipe σ ws).set i v := fun ws => by
        induction ws with
        | nil => intro σ _; rfl
        | cons w ws ih =>
          intro σ hn
          unfold L2.wipe
          rw [ih σ fun z => hn (List.mem_cons_of_mem _ z), List.set_comm]
          exact fun z => hn (by rw [z]; exact List.mem_cons_self)
      rw [this vs σ e, List.set_set]
section
variable {c : Cfg} {N : List Str} {sc : Sco} {k : Nat} {top : Str → Bool} {vs : List Nat} {pos : Pos}
theorem sg_name {i : Nat} {x : Str} (hi : i ∈ vs := by decide) (hN : N[i]? = some x := by rfl) (hx : sc.names.lookup x = some .local ∨ (top x = true ∧ sc.names.lookup x = some .cell) := by first | exact Or.inl rfl | exact Or.inr ⟨rfl, rfl⟩) : SG c N sc k top vs (.Name x pos) (gSet i) := fun X gd hf =>
  have hl : Loc sc x := hx.imp id (·.2)
  have hf' : X.fn x = true ∨ X.env.scope.names.lookup x = some .local := by
    rcases hx with h | ⟨h, _⟩
    · right
      rw [gd.hsc]
      exact h
    · exact .inl (hf x h)
  ⟨fun pins s σ H v u Q I r ⟨A, H₀, S, G, ρ, d, E, rp, q⟩ => by
    have base := (pg_name (X := X) (pos := pos) (i := i) (x := x) (by rw [gd.hN]; exact gd.nd) (by rw [gd.hN]; exact hN) (by rw [gd.hsc]; exact hl) hf').run pins s σ H v u Q I r
    refine base ?_
    unfold gSet at q
    split at q
    · rename_i ρ' e
      split at e
      · cases e
        exact q _ (E.set rp) (wipe_set hi)
      · cases e
    · exact q.elim⟩
theorem RpAll.inv {K : PySem.W.Frag} {H : Hp} {S : Addr → Prop} {ws : List V} {ds : List D} (r : RpAll K H S ws ds) : (ws = [] ∧ ds = []) ∨ ∃ v vs d ds', ws = v :: vs ∧ ds = d :: ds' ∧ Rp K H S v d ∧ RpAll K H S vs ds' := by
  cases r with
  | nil => exact .inl ⟨rfl, rfl⟩
  | cons r1 r2 => exact .inr ⟨_, _, _, _, rfl, rfl, r1, r2⟩
theorem Rp.tupI {K : PySem.W.Frag} {H : Hp} {S : Addr → Prop} {v : V} {ds : List D} (r : Rp K H S v (.tup ds)) : ∃ p ws, v = .ref p ∧ SqT K H p ws ∧ RpAll K H S ws ds := by
  cases r with
  | tup q ra => exact ⟨_, _, rfl, q, ra⟩
/-- several targets -/
def rdGs (c : Cfg) (vs : List Nat) (gs : List DG) : TGs := fun ws σ H Q => ∃ A H₀ S G ρ ds, EnvR c A H₀ S G σ H ρ ∧ RpAll c.K H S ws ds ∧ match gList gs ds ρ with
  | .ok ρ' => ∀ σ', EnvR c A H₀ S G σ' H ρ' → L2.wipe σ' vs = L2.wipe σ vs → Q σ' H
  | _ => False
def SGs (c : Cfg) (N : List Str) (sc : Sco) (k : Nat) (top : Str → Bool) (vs : List Nat) (tgs : List Expr) (gs : List DG) : Prop := ∀ X, Good c N sc k X → (∀ x, top x = true → X.fn x = true) → PGs X tgs (rdGs c vs gs)
theorem PG_mono {X : Cx} {tg : Expr} {t t' : TG} (h : PG X tg t) (m : ∀ v σ H Q, t' v σ H Q → t v σ H Q) : PG X tg t' := ⟨fun pins s σ H v u Q I r q => h.run pins s σ H v u Q I r (m v σ H Q q)⟩
theorem PGs_mono {X : Cx} {tg : List Expr} {t t' : TGs} (h : PGs X tg t) (m : ∀ v σ H Q, t' v σ H Q → t v σ H Q) : PGs X tg t' := ⟨fun pins s σ H v u Q I r q => h.run pins s σ H v u Q I r (m v σ H Q q)⟩
theorem sgs_nil : SGs c N sc k top vs [] [] := fun X gd hf => PGs_mono pgs_nil fun v σ H Q ⟨A, H₀, S, G, ρ, ds, E, r, q⟩ => by
  cases r with
  | nil => exact ⟨rfl, q σ E rfl⟩
  | cons _ _ => exact q.elim
theorem sgs_cons {t : Expr} {ts : List Expr} {g : DG} {gs : List DG} (h1 : SG c N sc k top vs t g) (h2 : SGs c N sc k top vs ts gs)
    (hs : ∀ env : PySem.Env, (assignEach (t :: ts) env).map (·.2) = assign t env :: (assignEach ts env).map (·.2) := by intro _; rfl) : SGs c N sc k top vs (t :: ts) (g :: gs) := fun X gd hf =>
  PGs_mono (pgs_cons (h1 X gd hf) (h2 X gd hf) (hs _)) fun v σ H Q ⟨A, H₀, S, G, ρ, ds, E, r, q⟩ => by
    rcases r.inv with ⟨rfl, rfl⟩ | ⟨v1, vs1, d1, ds1, rfl, rfl, r1, rs⟩
    · exact q.elim
    · have q : (match (g d1 ρ).bind (gList gs ds1) with
        | .ok ρ' => ∀ σ', EnvR c A H₀ S G σ' H ρ' → L2.wipe σ' vs = L2.wipe σ vs → Q σ' H
        | _ => False) := q
      refine ⟨v1, vs1, rfl, A, H₀, S, G, ρ, d1, E, r1, ?_⟩
      cases z : g d1 ρ with
      | ok ρ1 =>
        rw [z] at q
        intro σ1 E1 w1
        refine ⟨A, H₀, S, G, ρ1, ds1, E1, rs, ?_⟩
        have q : (match gList gs ds1 ρ1 with
          | .ok ρ' => ∀ σ', EnvR c A H₀ S G σ' H ρ' → L2.wipe σ' vs = L2.wipe σ vs → Q σ' H
          | _ => False) := q
        cases z2 : gList gs ds1 ρ1 with
        | ok ρ2 =>
          rw [z2] at q
          exact fun σ2 E2 w2 => q σ2 E2 (w2.trans w1)
        | exc _ => rw [z2] at q; exact q.elim
        | stuck => rw [z2] at q; exact q.elim
      | exc _ => rw [z] at q; exact q.elim
      | stuck => rw [z] at q; exact q.elim
theorem gList_len : ∀ {gs : List DG} {ds : List D} {ρ ρ' : Env}, gList gs ds ρ = .ok ρ' → ds.length = gs.length
  | [], [], _, _, _ => rfl
  | [], _ :: _, _, _, h => by cases h
  | _ :: _, [], _, _, h => by cases h
  | g :: gs, d :: ds, ρ, ρ', h => by
    have h : (g d ρ).bind (gList gs ds) = .ok ρ' := h
    cases z : g d ρ with
    | ok ρ1 =>
      rw [z] at h
      rw [List.length_cons, List.length_cons, gList_len h]
    | exc _ => rw [z] at h; cases h
    | stuck => rw [z] at h; cases h
theorem sg_tup {ts : List Expr} {j : Nat} {gs : List DG} (h : SGs c N sc k top vs ts gs) (hn : ∀ env : PySem.Env, (assignEach ts env).length = gs.length := by intro _; rfl) (hst : ∀ env : PySem.Env, (assignEach ts env).findIdx? (·.1) = none := by intro _; rfl) :
    SG c N sc k top vs (.Tuple ts j pos) (gTup gs) := fun X gd hf =>
  PG_mono (pg_tup gd.calm (h X gd hf) (hn _) (hst _)) fun v σ H Q ⟨A, H₀, S, G, ρ, d, E, r, q⟩ => by
    cases d with
    | tup ds =>
        obtain ⟨p, ws, rfl, hq, ra⟩ := r.tupI
        have q : (match gList gs ds ρ with
          | .ok ρ' => ∀ σ', EnvR c A H₀ S G σ' H ρ' → L2.wipe σ' vs = L2.wipe σ vs → Q σ' H
          | _ => False) := q
        have hl : ds.length = gs.length := by
          cases z : gList gs ds ρ with
          | ok ρ' => exact gList_len z
          | exc _ => rw [z] at q; exact q.elim
          | stuck => rw [z] at q; exact q.elim
        exact ⟨p, ws, rfl, by rw [gd.hK]; exact hq, by rw [ra.length]; exact hl, A, H₀, S, G, ρ, ds, E, ra, q⟩
    | _ => exact q.elim
end
/-! ### comprehensions -/
section
variable {c : Cfg} {A : Addr → Prop} {H₀ H H' : Hp} {S : Addr → Prop} {G : List (V × D)} {σ : L2.St} {ρ : Env}
def noOwn (ρ : Env) : Prop := ∀ (i : Nat) (d : D), ρ[i]? ≠ some (some (.own d))
theorem EnvR.hide (E : EnvR c A H₀ S G σ H ρ) : EnvR c A H₀ S G σ H (ρ.map hideO) ∧ noOwn (ρ.map hideO) := by
  have no : noOwn (ρ.map hideO) := fun i d h => by
    rw [List.getElem?_map] at h
    cases q : ρ[i]? with
    | none => rw [q] at h; cases h
    | some o =>
      rw [q] at h
      cases o with
      | none => cases h
      | some x => cases x <;> cases h
  refine ⟨⟨by rw [List.length_map]; exact E.len, fun i x h => ?_, fun i j d e a h => absurd h (no i d), E.hS, E.hA, E.gh, E.e0, E.tb⟩, no⟩
  rw [List.getElem?_map] at h
  cases q : ρ[i]? with
  | none => rw [q] at h; cases h
  | some o =>
    rw [q] at h
    cases o with
    | none => cases h
    | some y =>
      cases y with
      | own _ => cases h
      | sh d =>
        cases h
        exact E.sl i _ q
theorem EnvR.drop1 (E : EnvR c A H₀ S G σ H ρ) (no : noOwn ρ) (i : Nat) : EnvR c A H₀ S G (σ.set i none) H (ρ.set i none) ∧ noOwn (ρ.set i none) := by
  have no' : noOwn (ρ.set i none) := fun j d h => by
    rcases get_set h with ⟨_, _, e⟩ | ⟨_, h⟩
    · cases e
    · exact no j d h
  refine ⟨⟨by rw [List.length_set, List.length_set]; exact E.len, fun j x h => ?_, fun j k d e a h => absurd h (no' j d), E.hS, E.hA, E.gh, E.e0, E.tb⟩, no'⟩
  rcases get_set h with ⟨_, _, e⟩ | ⟨ne, h⟩
  · cases e
  · obtain ⟨v, h1, h2⟩ := E.sl j x h
    exact ⟨v, by rw [List.getElem?_set_ne ne]; exact h1, h2⟩
theorem EnvR.wipe (E : EnvR c A H₀ S G σ H ρ) : ∀ vs : List Nat, EnvR c A H₀ S G (L2.wipe σ vs) H (wipeE ρ vs) ∧ noOwn (wipeE ρ vs)
  | [] => E.hide
  | v :: vs => let ⟨e, n⟩ := EnvR.wipe E vs; e.drop1 n v
/-- a new list is to be shunned -/
theorem EnvR.addS (E : EnvR c A H₀ S G σ H ρ) {D : Addr} {o : HO} (hD : H D = none) (ho : ∀ ps, o ≠ .tbl ps) : EnvR c A H₀ (fun b => S b ∨ b = D) G σ (upd H D o) ρ where
  len := E.len
  sl := fun i x h => let ⟨v, h1, h2⟩ := E.sl i x h; ⟨v, h1, h2.more hD (Ext.new (T := c.T) hD).n⟩
  ap := E.ap
  hS := fun b h => by
    rcases h with h | h
    · exact (E.ext (Ext.new hD)).hS b h
    · subst h
      exact ⟨o, upd_same, ho⟩
  hA := fun b h => ⟨.inl (E.hA b h).1, (E.hA b h).2⟩
  gh := fun p h => ((E.gh p h).more hD).ext (Ext.new (T := c.T) hD).n
  e0 := E.e0.trans (Ext.new hD)
  tb := (Ext.new hD).t E.tb
/-- .. and is changed: no slot holds it -/
theorem EnvR.wrD (E : EnvR c A H₀ S G σ H ρ) (no : noOwn ρ) {D : Addr} {o u : HO} (hS : S D) (hD : H D = some u) (hm : isMut u) (hm' : isMut o) (h0 : H₀ D = none) : EnvR c A H₀ S G σ (upd H D o) ρ where
  len := E.len
  sl := fun i x h => by
    obtain ⟨v, h1, h2⟩ := E.sl i x h
    cases x with
    | sh d => exact ⟨v, h1, Rp.wr hS hD hm h2⟩
    | own d => exact absurd h (no i d)
  ap := E.ap
  hS := fun b h => by
    by_cases e : b = D
    · subst e
      exact ⟨o, upd_same, fun ps z => by rw [z] at hm'; exact hm'⟩
    · rw [upd_ne e]
      exact E.hS b h
  hA := E.hA
  gh := fun p h => (E.gh p h).wr hS hD hm
  e0 := ⟨fun b w e n => by
    have nb : b ≠ D := fun z => by
      rw [z, h0] at e
      cases e
    rw [upd_ne nb]
    exact E.e0.n b w e n, fun b z => by
    by_cases e : b = D
    · rw [e]
      exact h0
    · rw [upd_ne e] at z
      exact E.e0.f b z, fun t => tabs_wr (E.e0.t t) hD hm⟩
  tb := tabs_wr E.tb hD hm
theorem EnvR.subS (E : EnvR c A H₀ S G σ H ρ) (no : noOwn ρ) {S' : Addr → Prop} (h : ∀ a, S' a → S a) (hA : ∀ a, A a → S' a) : EnvR c A H₀ S' G σ H ρ where
  len := E.len
  sl := fun i x q => by
    obtain ⟨v, h1, h2⟩ := E.sl i x q
    cases x with
    | sh d => exact ⟨v, h1, Rp.weak h h2⟩
    | own d => exact absurd q (no i d)
  ap := E.ap
  hS := fun a q => E.hS a (h a q)
  hA := fun a q => ⟨hA a q, (E.hA a q).2⟩
  gh := fun p q => (E.gh p q).weak h
  e0 := E.e0
  tb := E.tb
end
/-- a test of a comprehension -/
def STs (c : Cfg) (N : List Str) (sc : Sco) (k : Nat) (ifs : List Expr) (t : DT) : Prop := ∀ X W, Good c N sc k X → L2N.Takes X W → PTs X ifs (rdB c W t)
section
variable {c : Cfg} {N : List Str} {sc : Sco} {k : Nat} {ex tg it : Expr} {f : DE} {t : DT} {fi : DI} {g : DG} {ifs : List Expr} {scope : Scope} {own : List (Str × Nat)} {vs : List Nat} {pos : Pos}
theorem sts_nil : STs c N sc k [] tYes := fun X W gd tk => ⟨fun pins s σ H Q I ⟨A, H₀, S, G, ρ, E, q⟩ => (pts_nil (X := X)).run pins s σ H Q I (q H Ext.refl)⟩
theorem sts_one (h : SB c N sc k ex t) : STs c N sc k [ex] t := fun X W gd tk => pts_one (h X W gd tk)
theorem good_blk {X : Cx} (gd : Good c N sc k X) (s : Shared) (H : Hp) (C : Addr) (cl : List (Str × Addr)) (fp : List Addr) : Good c N (rsc scope sc) k (X.blk s H scope (compEnvC scope cl C X.env) fp) :=
  ⟨gd.hP, gd.hw, gd.hK, gd.hmg, gd.hb, gd.hN, (show relS scope X.env.scope = relS scope sc.s by rw [gd.hsc]), gd.nd, gd.calm, gd.room, fun z h => nomatch h⟩
end
end NB
end

section
set_option Elab.async false
set_option linter.all false
set_option maxRecDepth 100000
/-! NBRule6: comprehensions. -/
namespace NB
open PySem PySem.Spec PyProof.Rows L2
section
variable {c : Cfg} {N : List Str} {sc : Sco} {k : Nat} {ex tg it : Expr} {f : DE} {t : DT} {fi : DI} {g : DG} {ifs : List Expr} {scope : Scope} {own : List (Str × Nat)} {vs : List Nat} {pos spos : Pos}
/-- one turn, as the loop of values says it -/
theorem lc_step {ρ : Env} {d : D} {ds acc : List D} {P : List D → Prop} {r : Res (List D)} (h : lcGo g t f ρ (d :: ds) acc = r) (hr : r ≠ .stuck) (hx : ∀ j, r ≠ .exc j) :
    ∃ ρ', g d ρ = .ok ρ' ∧ ((t ρ' = .ok true ∧ ∃ y, f ρ' = .ok y ∧ acc.length < line ∧ lcGo g t f ρ ds (acc ++ [y]) = r) ∨ (t ρ' = .ok false ∧ lcGo g t f ρ ds acc = r)) := by
  unfold lcGo at h
  split at h
  · rename_i ρ' e
    refine ⟨ρ', e, ?_⟩
    split at h
    · rename_i e2
      split at h
      · rename_i y e3
        split at h
        · rename_i hl
          exact .inl ⟨e2, y, e3, hl, h⟩
        · exact absurd h.symm hr
      · exact absurd h.symm hr
    · rename_i e2
      exact .inr ⟨e2, h⟩
    · exact absurd h.symm hr
  · exact absurd h.symm hr
theorem lc_noexc {ρ : Env} : ∀ {ds acc : List D} {j : Nat}, lcGo g t f ρ ds acc ≠ .exc j
  | [], acc, j, h => by cases h
  | d :: ds, acc, j, h => by
    unfold lcGo at h
    split at h
    · split at h
      · split at h
        · split at h
          · exact lc_noexc h
          · cases h
        · cases h
      · exact lc_noexc h
      · cases h
    · cases h
/-- the reading of a comprehension -/
theorem tLc_of {X : Cx} (gd : Good c N sc k X) {W : WX} {σ : L2.St} {H : Hp} {Q : VK} (h : rdF c W (eLc fi vs g t f) σ H Q) :
    tLc (rdI c W fi) (rdG c vs g) (rdB c (fun _ _ _ _ => False) t) (rdE c (fun _ _ _ _ => False) f) vs σ H Q := by
  obtain ⟨A, H₀, S, G, ρ, E, q⟩ := h
  refine ⟨A, H₀, S, G, ρ, E, ?_⟩
  unfold eLc at q
  cases z : fi ρ with
  | exc j => rw [z] at q; exact q
  | stuck => rw [z] at q; exact q
  | ok ds =>
  rw [z] at q
  have q : RF c S W σ H Q ((lcGo g t f (wipeE ρ vs) ds []).bind fun ys => .ok (.lst ys)) := q
  cases z2 : lcGo g t f (wipeE ρ vs) ds [] with
  | exc j => exact absurd z2 lc_noexc
  | stuck => rw [z2] at q; exact q.elim
  | ok ys =>
  rw [z2] at q
  have q : RF c S W σ H Q (.ok (.lst ys)) := q
  intro J H1 G1 e1 hg hJ D hD
  obtain ⟨E1, no⟩ := (E.ext e1).wipe vs
  have E2 : EnvR c A H₀ S (G1 ++ G) (L2.wipe σ vs) H1 (wipeE ρ vs) := E1.ghost hg
  have nS : ¬ S D := E2.new hD
  have h0 : H₀ D = none := E2.new0 hD
  have nA : ∀ a, A a → S a ∧ a ≠ D := fun a ha => ⟨(E2.hA a ha).1, fun y => (E2.hA a ha).2 (by rw [y]; exact h0)⟩
  refine ⟨fun i m H' => m = ds.length - i ∧ i ≤ ds.length ∧ Ext c.T H H' ∧ ∃ accV acc, H' D = some (.lst accV) ∧ RpAll c.K H' (fun b => S b ∨ b = D) accV acc ∧ EnvR c A H₀ (fun b => S b ∨ b = D) (G1 ++ G) (L2.wipe σ vs) H' (wipeE ρ vs) ∧
      lcGo g t f (wipeE ρ vs) (ds.drop i) acc = .ok ys, ?_, ?_⟩
  · exact ⟨ds.length, by simp, Nat.zero_le _, e1.trans (Ext.new hD), [], [], upd_same, .nil, E2.addS hD (fun ps y => by cases y), by simpa using z2⟩
  · rintro i m H' ⟨rfl, hi, eH, accV, acc, hDv, ra, E', zz⟩
    have Egh : ∀ p ∈ G1, Rp c.K H' (fun b => S b ∨ b = D) p.1 p.2 := fun p hp => E'.gh p (List.mem_append_left _ hp)
    obtain ⟨j1, j2⟩ := hJ i H' (fun b => S b ∨ b = D) E'.nS Egh
    by_cases hlt : i < ds.length
    · right
      have hd : ds[i]? = some ds[i] := List.getElem?_eq_getElem hlt
      obtain ⟨go, yl⟩ := j1 _ hd
      have hdrop : ds.drop i = ds[i] :: ds.drop (i + 1) := List.drop_eq_getElem_cons hlt
      rw [hdrop] at zz
      obtain ⟨ρ', e2, rest⟩ := lc_step (P := fun _ => True) zz (by simp) (by simp)
      refine ⟨go, fun H'' => Ext c.T H H'' ∧ ∃ accV acc, H'' D = some (.lst accV) ∧ RpAll c.K H'' (fun b => S b ∨ b = D) accV acc ∧ EnvR c A H₀ (fun b => S b ∨ b = D) (G1 ++ G) (L2.wipe σ vs) H'' (wipeE ρ vs) ∧
        lcGo g t f (wipeE ρ vs) (ds.drop (i + 1)) acc = .ok ys, fun H'' ⟨y1, y2⟩ => ⟨ds.length - (i + 1), by omega, rfl, hlt, y1, y2⟩, fun x H2 y => ?_⟩
      obtain ⟨ex2, rx⟩ := yl x H2 y
      have E2' := E'.ext ex2
      refine ⟨A, H₀, _, G1 ++ G, wipeE ρ vs, ds[i], E2', rx, ?_⟩
      rw [e2]
      intro σ2 E3 hw
      refine ⟨hw.trans wipe_idem, ?_⟩
      have hD2 : H2 D = some (.lst accV) := ext_lst ex2.n hDv
      -- the environment of the next turn
      have back : ∀ {H5 : Hp}, Ext c.T H2 H5 → EnvR c A H₀ (fun b => S b ∨ b = D) (G1 ++ G) (L2.wipe σ vs) H5 (wipeE ρ vs) := fun {H5} e5 => E2'.ext e5
      rcases rest with ⟨e3, y, e4, hl, e5⟩ | ⟨e3, e5⟩
      · refine ⟨A, H₀, _, G1 ++ G, ρ', E3, ?_⟩
        rw [e3]
        intro H3 ex3
        refine iteT ⟨A, H₀, _, G1 ++ G, ρ', E3.ext ex3, ?_⟩
        rw [e4]
        intro v H4 ex4 rv
        have e24 := ex3.trans ex4
        have hD4 : H4 D = some (.lst accV) := ext_lst e24.n hD2
        refine ⟨accV, hD4, by rw [ra.length]; exact hl, ?_, accV ++ [v], acc ++ [y], upd_same, ?_, ?_, e5⟩
        · have e04 : Ext c.T H H4 := (eH.trans ex2).trans e24
          have hn : H D = none := by
            cases qq : H D with
            | none => rfl
            | some o => exact absurd (e1.f D hD) (by rw [qq]; simp)
          exact ⟨fun b w e n => by
            have nb : b ≠ D := fun z => by
              rw [z, hn] at e
              cases e
            rw [upd_ne nb]
            exact e04.n b w e n, fun b z => by
            by_cases e : b = D
            · rw [e]
              exact hn
            · rw [upd_ne e] at z
              exact e04.f b z, fun t => tabs_wr (e04.t t) hD4 trivial⟩
        · exact (((ra.ext ex2.n).ext e24.n).wr (.inr rfl) hD4 trivial).append (.cons (rv.wr (.inr rfl) hD4 trivial) .nil)
        · exact (back e24).wrD no (.inr rfl) hD4 trivial trivial h0
      · refine ⟨A, H₀, _, G1 ++ G, ρ', E3, ?_⟩
        rw [e3]
        intro H3 ex3
        exact iteF ⟨(eH.trans ex2).trans ex3, accV, acc, ext_lst ex3.n hD2, (ra.ext ex2.n).ext ex3.n, back ex3, e5⟩
    · left
      have e : i = ds.length := by omega
      subst e
      rw [List.drop_length] at zz
      have zz : Res.ok acc = .ok ys := zz
      cases zz
      exact ⟨j2 rfl, q D H' (e1.f D hD) eH ⟨accV, hDv, ra⟩⟩
theorem sf_lc (hi : SI c N sc k tg it fi) (ok : blkC N sc scope own = true := by first | decide +kernel | (dsimp only; decide +kernel)) (hv : own.map (·.2) = vs := by rfl) (hg : SG c N (rsc scope sc) k (fun x => scope.names.lookup x == some .cell) vs tg g) (ht : STs c N (rsc scope sc) k ifs t) (he : SE c N (rsc scope sc) k ex f)
    (hs : ∀ (env : PySem.Env) x, foldedSetIterable it env x = pure x := by intro _ _; rfl) : SF c N sc k (.ListComp ex [⟨tg, it, ifs, 0⟩] scope pos) (eLc fi vs g t f) := fun X W gd tk => by
  subst hv
  refine (pe_lc gd.calm (by rw [gd.hN]; exact gd.nd) (hi X W gd tk) (by rw [gd.hN, gd.hsc]; exact blkOk_by ok) (fun s H C cl fp => hg _ (good_blk gd s H C cl fp) fun x z => z) (fun s H C cl fp => ht _ _ (good_blk gd s H C cl fp) takesN0) (fun s H C cl fp => he _ _ (good_blk gd s H C cl fp) takesN0) (hs _)).mono' fun σ H Q q => tLc_of gd q
end
end NB
end

section
set_option Elab.async false
set_option linter.all false
set_option maxRecDepth 100000
/-! NBRule7: statements. -/
namespace NB
open PySem PySem.Spec PyProof.Rows L2

/-- a def's own frame -/
structure Top (X : Cx) : Prop where
  fn : ∀ x, X.fn x = true
  pass : PassesOwn (model X.prog X.w) X.A X.env X.xe
def RO (c : Cfg) (A : Addr → Prop) (H₀ : Hp) (W : WX) (G : List (V × D)) (o : Out) (E : Ends) : Prop :=
  match o with
  | .nx ρ' => ∀ σ' H' S', EnvR c A H₀ S' G σ' H' ρ' → E.nx σ' H'
  | .rt d => ∀ v H', Ext c.T H₀ H' → Rp c.K H' A v d → E.rt v H'
  | .bk ρ' => ∀ σ' H' S', EnvR c A H₀ S' G σ' H' ρ' → E.bk σ' H'
  | .ct ρ' => ∀ σ' H' S', EnvR c A H₀ S' G σ' H' ρ' → E.ct σ' H'
  | .exc k ρ' => ∀ σ' H' S', EnvR c A H₀ S' G σ' H' ρ' → W (.ref (c.xc k)) none σ' H'
  | .stuck => False
def rdS (c : Cfg) (W : WX) (F : DS) : TS := fun D σ H => ∃ A H₀ S G ρ, EnvR c A H₀ S G σ H ρ ∧ RO c A H₀ W G (F ρ) D
def SS (c : Cfg) (N : List Str) (sc : Sco) (k : Nat) (st : Stmt) (F : DS) : Prop := ∀ X W, Good c N sc k X → Top X → L2N.Takes X W → PS X st (rdS c W F)
def SSs (c : Cfg) (N : List Str) (sc : Sco) (k : Nat) (sts : List Stmt) (F : DS) : Prop := ∀ X W, Good c N sc k X → Top X → L2N.Takes X W → PSs X sts (rdS c W F)
theorem PS_mono {X : Cx} {st : Stmt} {t t' : TS} (h : PS X st t) (m : ∀ D σ H, t' D σ H → t D σ H) : PS X st t' := ⟨fun pins s σ H D I q => h.run pins s σ H D I (m D σ H q)⟩
theorem PSs_mono {X : Cx} {sts : List Stmt} {t t' : TS} (h : PSs X sts t) (m : ∀ D σ H, t' D σ H → t D σ H) : PSs X sts t' := ⟨fun pins s σ H D I q => h.run pins s σ H D I (m D σ H q)⟩
section
variable {c : Cfg} {A : Addr → Prop} {H₀ H : Hp} {S : Addr → Prop} {G : List (V × D)} {σ : L2.St} {ρ : Env} {W : WX} {En : Ends}
theorem rdE_stm {f : DE} {kk : D → Out} {R : VK} (E : EnvR c A H₀ S G σ H ρ) (h : RO c A H₀ W G (ofR ρ (f ρ) kk) En) (hk : ∀ d v H1, f ρ = .ok d → Ext c.T H H1 → Rp c.K H1 S v d → EnvR c A H₀ S G σ H1 ρ → RO c A H₀ W G (kk d) En → R v H1) : rdE c W f σ H R := by
  refine ⟨A, H₀, S, G, ρ, E, ?_⟩
  cases q : f ρ with
  | ok d =>
    rw [q] at h
    exact fun v H1 e r => hk d v H1 q e r (E.ext e) h
  | exc j =>
    rw [q] at h
    exact fun H1 e => h σ H1 S (E.ext e)
  | stuck =>
    rw [q] at h
    exact h
theorem rdT_stm {f : DE} {kk : D → Out} {R : VK} (E : EnvR c A H₀ S G σ H ρ) (h : RO c A H₀ W G (ofR ρ (f ρ) kk) En) (hk : ∀ d v H1, f ρ = .ok d → Ext c.T H H1 → RpT c.K H1 S v d → EnvR c A H₀ S G σ H1 ρ → RO c A H₀ W G (kk d) En → R v H1) : rdT c W f σ H R := by
  refine ⟨A, H₀, S, G, ρ, E, ?_⟩
  cases q : f ρ with
  | ok d =>
    rw [q] at h
    exact fun v H1 e r => hk d v H1 q e r (E.ext e) h
  | exc j =>
    rw [q] at h
    exact fun H1 e => h σ H1 S (E.ext e)
  | stuck =>
    rw [q] at h
    exact h
theorem rdF_stm {f : DE} {kk : D → Out} {R : VK} (E : EnvR c A H₀ S G σ H ρ) (h : RO c A H₀ W G (ofR ρ (f ρ) kk) En) (hk : ∀ d a H1, H a = none → Ext c.T H H1 → OwnR c.K H1 (fun b => S b ∨ b = a) a d → RO c A H₀ W G (kk d) En → R (.ref a) H1) : rdF c W f σ H R := by
  refine ⟨A, H₀, S, G, ρ, E, ?_⟩
  cases q : f ρ with
  | ok d =>
    rw [q] at h
    exact fun a H1 n e r => hk d a H1 n e r h
  | exc j =>
    rw [q] at h
    exact fun H1 e => h σ H1 S (E.ext e)
  | stuck =>
    rw [q] at h
    exact h
theorem rdB_stm {f : DT} {kk : Bool → Out} {R : Bool → Hp → Prop} (E : EnvR c A H₀ S G σ H ρ) (h : RO c A H₀ W G (ofR ρ (f ρ) kk) En) (hk : ∀ b H1, Ext c.T H H1 → EnvR c A H₀ S G σ H1 ρ → RO c A H₀ W G (kk b) En → R b H1) : rdB c W f σ H R := by
  refine ⟨A, H₀, S, G, ρ, E, ?_⟩
  cases q : f ρ with
  | ok d =>
    rw [q] at h
    exact fun H1 e => hk d H1 e (E.ext e) h
  | exc j =>
    rw [q] at h
    exact fun H1 e => h σ H1 S (E.ext e)
  | stuck =>
    rw [q] at h
    exact h
theorem EnvR.le (E : EnvR c A H₀ S G σ H ρ) : ∀ a, A a → S a := fun a h => (E.hA a h).1
end
section
variable {c : Cfg} {N : List Str} {sc : Sco} {k : Nat} {a b ex tg it : Expr} {f g : DE} {t : DT} {fi : DI} {dg : DG} {F F' : DS} {st : Stmt} {sts sts' : List Stmt} {pos pos' : Pos}
/-! ### blocks -/
theorem ss_nil : SSs c N sc k [] sNil := fun X W gd tp tk => PSs_mono pss_nil fun D σ H ⟨A, H₀, S, G, ρ, E, q⟩ => q σ H S E
theorem ss_cons (h1 : SS c N sc k st F) (h2 : SSs c N sc k sts F') : SSs c N sc k (st :: sts) (sSeq F F') := fun X W gd tp tk =>
  PSs_mono (pss_cons (h1 X W gd tp tk) (h2 X W gd tp tk)) fun D σ H ⟨A, H₀, S, G, ρ, E, q⟩ => by
    refine ⟨A, H₀, S, G, ρ, E, ?_⟩
    unfold sSeq at q
    cases z : F ρ with
    | nx ρ' =>
      rw [z] at q
      exact fun σ' H' S' E' => ⟨A, H₀, S', G, ρ', E', q⟩
    | _ =>
      rw [z] at q
      exact q
theorem ss_one (h1 : SS c N sc k st F) : SSs c N sc k [st] F := fun X W gd tp tk => pss_one (h1 X W gd tp tk)
/-- from here on the list of a slot may be held by others -/
theorem ss_freeze {i : Nat} (h : SSs c N sc k sts F) : SSs c N sc k sts (sSeq (sFreeze i) F) := fun X W gd tp tk =>
  PSs_mono (h X W gd tp tk) fun D σ H ⟨A, H₀, S, G, ρ, E, q⟩ => by
    unfold sSeq sFreeze at q
    split at q
    · rename_i ρ' z
      split at z
      · rename_i d e
        cases z
        obtain ⟨S', E'⟩ := E.freeze e
        exact ⟨A, H₀, S', G, _, E', q⟩
      · cases z
        exact ⟨A, H₀, S, G, _, E, q⟩
      · cases z
    all_goals (rename_i z; split at z <;> cases z)
    exact q.elim
theorem ss_pass : SS c N sc k (.Pass pos) sNil := fun X W gd tp tk => PS_mono ps_pass fun D σ H ⟨A, H₀, S, G, ρ, E, q⟩ => q σ H S E
theorem ss_break : SS c N sc k (.Break pos) sBreak := fun X W gd tp tk => PS_mono ps_break fun D σ H ⟨A, H₀, S, G, ρ, E, q⟩ => q σ H S E
theorem ss_cont : SS c N sc k (.Continue pos) sCont := fun X W gd tp tk => PS_mono ps_continue fun D σ H ⟨A, H₀, S, G, ρ, E, q⟩ => q σ H S E
theorem ss_expr (ha : ST c N sc k a f) (hs : ∀ env : PySem.Env, swapsWith a none pos.line env = pure false := by intro _; rfl) : SS c N sc k (.Expr a pos) (sExpr f) := fun X W gd tp tk =>
  PS_mono (ps_expr (ha X W gd tk) (hs _)) fun D σ H ⟨A, H₀, S, G, ρ, E, q⟩ => rdT_stm E q fun d v H1 _ e r E1 q1 => q1 σ H1 S E1
theorem ss_ret (ha : SE c N sc k a f) : SS c N sc k (.Return (some a) pos) (sRet f) := fun X W gd tp tk =>
  PS_mono (ps_ret (ha X W gd tk)) fun D σ H ⟨A, H₀, S, G, ρ, E, q⟩ => rdE_stm E q fun d v H1 _ e r E1 q1 => q1 v H1 E1.e0 (r.weak E1.le)
theorem ss_retN : SS c N sc k (.Return none pos) sRetN := fun X W gd tp tk => PS_mono ps_retN fun D σ H ⟨A, H₀, S, G, ρ, E, q⟩ => q .non H E.e0 .non
theorem ss_if (hc : SB c N sc k ex t) (ha : SSs c N sc k sts F) (hb : SSs c N sc k sts' F') : SS c N sc k (.If ex sts sts' pos) (sIf t F F') := fun X W gd tp tk =>
  PS_mono (ps_if (hc X W gd tk) (ha X W gd tp tk) (hb X W gd tp tk)) fun D σ H ⟨A, H₀, S, G, ρ, E, q⟩ => by
    refine rdB_stm E q fun b H1 e E1 q1 => ?_
    cases b with
    | true => exact iteT ⟨A, H₀, S, G, ρ, E1, q1⟩
    | false => exact iteF ⟨A, H₀, S, G, ρ, E1, q1⟩
/-! ### assignments -/
theorem ss_set {i : Nat} {x : Str} (he : SE c N sc k a f) (hN : N[i]? = some x := by rfl) (hx : Loc sc x := by first | exact Or.inl rfl | exact Or.inr rfl)
    (hs : ∀ env : PySem.Env, env.scope = sc → swapsWith a (some (.Name x pos')) pos.line env = pure false := by intro _ _; rfl) : SS c N sc k (.Assign [.Name x pos'] a pos) (sSet i f) := fun X W gd tp tk =>
  PS_mono (ps_set (i := i) (by rw [gd.hN]; exact gd.nd) (by rw [gd.hN]; exact hN) (by rw [gd.hsc]; exact hx) (he X W gd tk) (hs _ gd.hsc) (.inl (tp.fn x))) fun D σ H ⟨A, H₀, S, G, ρ, E, q⟩ => by
    refine rdE_stm E q fun d v H1 _ e r E1 q1 => ?_
    have q1 : RO c A H₀ W G (match gSet i d ρ with | .ok ρ' => .nx ρ' | _ => .stuck) D := q1
    unfold gSet at q1
    by_cases hi : i < ρ.length
    · rw [if_pos hi] at q1
      exact q1 _ H1 S (E1.set r)
    · rw [if_neg hi] at q1
      exact q1.elim
/-- name = a new list, which the slot alone holds -/
theorem ss_setO {i : Nat} {x : Str} (he : SF c N sc k a f) (hN : N[i]? = some x := by rfl) (hx : Loc sc x := by first | exact Or.inl rfl | exact Or.inr rfl)
    (hs : ∀ env : PySem.Env, env.scope = sc → swapsWith a (some (.Name x pos')) pos.line env = pure false := by intro _ _; rfl) : SS c N sc k (.Assign [.Name x pos'] a pos) (sSetO i f) := fun X W gd tp tk =>
  PS_mono (ps_set (i := i) (by rw [gd.hN]; exact gd.nd) (by rw [gd.hN]; exact hN) (by rw [gd.hsc]; exact hx) (he X W gd tk) (hs _ gd.hsc) (.inl (tp.fn x))) fun D σ H ⟨A, H₀, S, G, ρ, E, q⟩ => by
    refine rdF_stm E q fun d a H1 n e r q1 => ?_
    by_cases hi : i < ρ.length
    · rw [if_pos hi] at q1
      exact q1 _ H1 _ (E.setO e n r hi)
    · rw [if_neg hi] at q1
      exact q1.elim
/-- any target -/
theorem ss_asg {vs : List Nat} (he : SE c N sc k a f) (hg : SG c N sc k (fun _ => true) vs tg dg) (hs : ∀ env : PySem.Env, env.scope = sc → swapsWithSole [tg] a pos.line env = pure false := by intro _ _; rfl) (hw : ∀ env : PySem.Env, env.scope = sc → swappedStores [tg] a env = pure none := by first | (intro _ _; rfl) | (rintro ⟨_, _⟩ h; cases h; rfl))
    (h1 : ∀ env : PySem.Env, (assignEach [tg] env).map (·.2) = [assign tg env] := by intro _; rfl) : SS c N sc k (.Assign [tg] a pos) (sAsg dg f) := fun X W gd tp tk =>
  PS_mono (ps_asg (he X W gd tk) (hg X gd fun x _ => tp.fn x) (hs _ gd.hsc) (hw _ gd.hsc) (h1 _)) fun D σ H ⟨A, H₀, S, G, ρ, E, q⟩ => by
    refine rdE_stm E q fun d v H1 _ e r E1 q1 => ?_
    refine ⟨A, H₀, S, G, ρ, d, E1, r, ?_⟩
    have q1 : RO c A H₀ W G (match dg d ρ with | .ok ρ' => .nx ρ' | _ => .stuck) D := q1
    cases z : dg d ρ with
    | ok ρ' =>
      rw [z] at q1
      exact fun σ' E' _ => q1 σ' H1 S E'
    | exc _ => rw [z] at q1; exact q1.elim
    | stuck => rw [z] at q1; exact q1.elim
end
/-! ### loops -/
section
variable {c : Cfg} {N : List Str} {sc : Sco} {k : Nat} {a b ex tg it : Expr} {f g : DE} {t : DT} {fi : DI} {dg : DG} {F F' : DS} {st : Stmt} {sts sts' : List Stmt} {pos pos' : Pos}
theorem ss_while (hc : SB c N sc k ex t) (hb : SSs c N sc k sts F) : SS c N sc k (.While ex sts [] pos) (sWhile t F) := fun X W gd tp tk =>
  PS_mono (ps_while tp.pass (hc X W gd tk) (hb X W gd tp tk)) fun D σ H ⟨A, H₀, S, G, ρ, E, q⟩ => by
    refine ⟨fun m σ H => ∃ S ρ, EnvR c A H₀ S G σ H ρ ∧ RO c A H₀ W G (whileD t F m ρ) D, ⟨100000, S, ρ, E, q⟩, ?_⟩
    rintro m σ H ⟨S, ρ, E, q⟩
    cases m with
    | zero => exact q.elim
    | succ n =>
      refine rdB_stm E q fun b H1 e E1 q1 => ?_
      cases b with
      | false => exact iteF (q1 σ H1 S E1)
      | true =>
        have q1 : RO c A H₀ W G (match F ρ with
          | .nx ρ' => whileD t F n ρ'
          | .ct ρ' => whileD t F n ρ'
          | .bk ρ' => .nx ρ'
          | .rt d => .rt d
          | .exc k ρ' => .exc k ρ'
          | .stuck => .stuck) D := q1
        refine iteT ⟨fun σ' H' => ∃ S ρ, EnvR c A H₀ S G σ' H' ρ ∧ RO c A H₀ W G (whileD t F n ρ) D, fun σ' H' h => ⟨n, Nat.lt_succ_self n, h⟩, A, H₀, S, G, ρ, E1, ?_⟩
        cases z : F ρ with
        | nx ρ' => rw [z] at q1; exact fun σ' H' S' E' => ⟨S', ρ', E', q1⟩
        | ct ρ' => rw [z] at q1; exact fun σ' H' S' E' => ⟨S', ρ', E', q1⟩
        | _ => rw [z] at q1; exact q1
theorem ss_for {vs : List Nat} (hi : SI c N sc k tg it fi) (hg : SG c N sc k (fun _ => true) vs tg dg) (hb : SSs c N sc k sts F) (hs : ∀ (env : PySem.Env) x, foldedSetIterable it env x = pure x := by intro _ _; rfl) : SS c N sc k (.For tg it sts [] pos) (sFor fi dg F) := fun X W gd tp tk =>
  PS_mono (ps_for tp.pass gd.calm (hi X W gd tk) (hg X gd fun x _ => tp.fn x) (hb X W gd tp tk) (hs _)) fun D σ H ⟨A, H₀, S, G, ρ, E, q⟩ => by
    refine ⟨A, H₀, S, G, ρ, E, ?_⟩
    unfold sFor at q
    cases z : fi ρ with
    | exc j => rw [z] at q; exact fun H1 e => q σ H1 S (E.ext e)
    | stuck => rw [z] at q; exact q
    | ok ds =>
    rw [z] at q
    have q : RO c A H₀ W G (forD dg F ds ρ) D := q
    intro J H1 G1 e hgh hJ
    refine ⟨fun i m σ H => m = ds.length - i ∧ i ≤ ds.length ∧ ∃ S ρ, EnvR c A H₀ S (G1 ++ G) σ H ρ ∧ RO c A H₀ W G (forD dg F (ds.drop i) ρ) D, ⟨ds.length, by simp, Nat.zero_le _, S, ρ, (E.ext e).ghost hgh, q⟩, ?_⟩
    rintro i m σ H ⟨rfl, hi, S, ρ, E, q⟩
    obtain ⟨j1, j2⟩ := hJ i H S E.nS fun p hp => E.gh p (List.mem_append_left _ hp)
    by_cases hlt : i < ds.length
    · right
      have hd : ds[i]? = some ds[i] := List.getElem?_eq_getElem hlt
      obtain ⟨go, yl⟩ := j1 _ hd
      rw [List.drop_eq_getElem_cons hlt] at q
      refine ⟨go, fun σ' H' => ∃ S ρ, EnvR c A H₀ S (G1 ++ G) σ' H' ρ ∧ RO c A H₀ W G (forD dg F (ds.drop (i + 1)) ρ) D, fun σ' H' h => ⟨ds.length - (i + 1), by omega, rfl, hlt, h⟩, fun x H2 y => ?_⟩
      obtain ⟨e2, rx⟩ := yl x H2 y
      refine ⟨A, H₀, S, G1 ++ G, ρ, ds[i], E.ext e2, rx, ?_⟩
      have q : RO c A H₀ W G (match dg ds[i] ρ with
        | .ok ρ' => (match F ρ' with
          | .nx ρ'' => forD dg F (ds.drop (i + 1)) ρ''
          | .ct ρ'' => forD dg F (ds.drop (i + 1)) ρ''
          | .bk ρ'' => .nx ρ''
          | .rt d => .rt d
          | .exc k ρ'' => .exc k ρ''
          | .stuck => .stuck)
        | _ => .stuck) D := q
      cases z2 : dg ds[i] ρ with
      | exc _ => rw [z2] at q; exact q.elim
      | stuck => rw [z2] at q; exact q.elim
      | ok ρ' =>
      rw [z2] at q
      intro σ2 E2 _
      refine ⟨A, H₀, S, G1 ++ G, ρ', E2, ?_⟩
      have q : RO c A H₀ W G (match F ρ' with
          | .nx ρ'' => forD dg F (ds.drop (i + 1)) ρ''
          | .ct ρ'' => forD dg F (ds.drop (i + 1)) ρ''
          | .bk ρ'' => .nx ρ''
          | .rt d => .rt d
          | .exc k ρ'' => .exc k ρ''
          | .stuck => .stuck) D := q
      cases z3 : F ρ' with
      | nx ρ'' => rw [z3] at q; exact fun σ' H' S' E' => ⟨S', ρ'', E', q⟩
      | ct ρ'' => rw [z3] at q; exact fun σ' H' S' E' => ⟨S', ρ'', E', q⟩
      | bk ρ'' => rw [z3] at q; exact fun σ' H' S' E' => q σ' H' S' E'.unghost
      | rt d => rw [z3] at q; exact q
      | exc j ρ'' => rw [z3] at q; exact fun σ' H' S' E' => q σ' H' S' E'.unghost
      | stuck => rw [z3] at q; exact q
    · left
      have e : i = ds.length := by omega
      subst e
      rw [List.drop_length] at q
      exact ⟨j2 rfl, q σ H S E.unghost⟩
end
end NB
end

section
set_option Elab.async false
set_option linter.all false
set_option maxRecDepth 100000
/-! NBRule8: a, b = x, y; append, extend; name = [..]; raise; a def's promise from its body. -/
namespace NB
open PySem PySem.Spec PyProof.Rows L2
section
variable {c : Cfg} {A : Addr → Prop} {H₀ H H' : Hp} {S : Addr → Prop} {G : List (V × D)} {σ : L2.St} {ρ : Env} {W : WX}
/-- a new list is there -/
theorem EnvR.addO (E : EnvR c A H₀ S G σ H ρ) (e : Ext c.T H H') {a : Addr} (hn : H a = none) (h : ∃ o, H' a = some o ∧ ∀ ps, o ≠ .tbl ps) : EnvR c A H₀ (fun b => S b ∨ b = a) G σ H' ρ where
  len := E.len
  sl := fun i x q => let ⟨v, h1, h2⟩ := E.sl i x q; ⟨v, h1, h2.more hn e.n⟩
  ap := E.ap
  hS := fun b q => by
    rcases q with q | q
    · exact (E.ext e).hS b q
    · subst q
      exact h
  hA := fun b q => ⟨.inl (E.hA b q).1, (E.hA b q).2⟩
  gh := fun p q => ((E.gh p q).more hn).ext e.n
  e0 := E.e0.trans e
  tb := e.t E.tb
/-- it comes into a slot -/
theorem EnvR.putO (E : EnvR c A H₀ S G σ H ρ) {i : Nat} {a : Addr} {d : D} (hi : i < ρ.length) (hS : S a) (h0 : H₀ a = none) (r : OwnR c.K H S a d) (no : ∀ (j : Nat) (d' : D), ρ[j]? = some (some (.own d')) → σ[j]? ≠ some (some (V.ref a))) : EnvR c A H₀ S G (σ.set i (some (V.ref a))) H (ρ.set i (some (.own d))) where
  len := by rw [List.length_set, List.length_set]; exact E.len
  sl := fun j x h => by
    rcases get_set h with ⟨e1, _, e3⟩ | ⟨ne, h⟩
    · subst e1
      cases e3
      exact ⟨V.ref a, List.getElem?_set_self (by rw [E.len]; exact hi), a, rfl, hS, h0, r⟩
    · obtain ⟨v, h1, h2⟩ := E.sl j x h
      exact ⟨v, by rw [List.getElem?_set_ne ne]; exact h1, h2⟩
  ap := fun j k d1 d2 b h1 h2 h3 h4 => by
    rcases get_set h1 with ⟨e1, _, _⟩ | ⟨n1, g1⟩
    · rcases get_set h2 with ⟨e2, _, _⟩ | ⟨n2, g2⟩
      · exact e1.symm.trans e2
      · exfalso
        subst e1
        rw [List.getElem?_set_self (by rw [E.len]; exact hi)] at h3
        cases h3
        rw [List.getElem?_set_ne n2] at h4
        exact no k d2 g2 h4
    · rcases get_set h2 with ⟨e2, _, _⟩ | ⟨n2, g2⟩
      · exfalso
        subst e2
        rw [List.getElem?_set_self (by rw [E.len]; exact hi)] at h4
        cases h4
        rw [List.getElem?_set_ne n1] at h3
        exact no j d1 g1 h3
      · rw [List.getElem?_set_ne n1] at h3
        rw [List.getElem?_set_ne n2] at h4
        exact E.ap j k d1 d2 b g1 g2 h3 h4
  hS := E.hS
  hA := E.hA
  gh := E.gh
  e0 := E.e0
  tb := E.tb
def setAll (σ : L2.St) : List Nat → List V → L2.St
  | i :: is, v :: vs => setAll (σ.set i (some v)) is vs
  | _, _ => σ
def rdPar (c : Cfg) (W : WX) (items : List (Nat × Bool × DE)) (σ₀ : L2.St) (En : Ends) : TA := fun σ H Q => ∃ A H₀ S G ρ σa ρa, EnvR c A H₀ S G σ H ρ ∧ EnvR c A H₀ S G σa H ρa ∧ RO c A H₀ W G (parGo items ρ ρa) En ∧
  (∀ vs H', vs.length = items.length → En.nx (setAll σa (items.map (·.1)) vs) H' → Q vs H')
def SPar (c : Cfg) (N : List Str) (sc : Sco) (k : Nat) (es : List Expr) (items : List (Nat × Bool × DE)) : Prop := ∀ X W, Good c N sc k X → L2N.Takes X W → ∀ σ₀ En, PA X es (rdPar c W items σ₀ En)
end
section
variable {c : Cfg} {N : List Str} {sc : Sco} {k : Nat} {a b d ex tg it : Expr} {f g : DE} {t : DT} {fi : DI} {dg : DG} {F F' : DS} {st : Stmt} {es : List Expr} {items : List (Nat × Bool × DE)} {sts sts' : List Stmt} {pos pos' : Pos}
theorem spar_nil : SPar c N sc k [] [] := fun X W gd tk σ₀ En => pa_nil.mono' fun σ H Q ⟨A, H₀, S, G, ρ, σa, ρa, E, Ea, q, hq⟩ => hq [] H rfl (q σa H S Ea)
theorem spar_sh {i : Nat} (ha : SE c N sc k a f) (hr : SPar c N sc k es items) (hs : ∀ env : PySem.Env, starEach (a :: es) env = (false, eval a env) :: starEach es env := by intro _; rfl) : SPar c N sc k (a :: es) ((i, false, f) :: items) := fun X W gd tk σ₀ En =>
  (pa_cons (ha X W gd tk) (hr X W gd tk σ₀ En) (hs _)).mono' fun σ H Q ⟨A, H₀, S, G, ρ, σa, ρa, E, Ea, q, hq⟩ => by
    refine rdE_stm E q fun d v H1 _ e r E1 q1 => ?_
    by_cases hi : i < ρa.length
    · rw [if_pos hi] at q1
      exact ⟨A, H₀, S, G, ρ, _, _, E1, (Ea.ext e).set r, q1, fun vs H' hl z => hq (v :: vs) H' (by rw [List.length_cons, List.length_cons, hl]) z⟩
    · rw [if_neg hi] at q1
      exact q1.elim
theorem spar_ow {i : Nat} (ha : SF c N sc k a f) (hr : SPar c N sc k es items) (hs : ∀ env : PySem.Env, starEach (a :: es) env = (false, eval a env) :: starEach es env := by intro _; rfl) : SPar c N sc k (a :: es) ((i, true, f) :: items) := fun X W gd tk σ₀ En =>
  (pa_cons (ha X W gd tk) (hr X W gd tk σ₀ En) (hs _)).mono' fun σ H Q ⟨A, H₀, S, G, ρ, σa, ρa, E, Ea, q, hq⟩ => by
    refine rdF_stm E q fun d p H1 n e r q1 => ?_
    by_cases hi : i < ρa.length
    · rw [if_pos hi] at q1
      refine ⟨A, H₀, _, G, ρ, _, _, E.addO e n r.is, (Ea.addO e n r.is).putO hi (.inr rfl) (E.new0 n) r (fun j d' h z => ?_), q1, fun vs H' hl z => hq (V.ref p :: vs) H' (by rw [List.length_cons, List.length_cons, hl]) z⟩
      obtain ⟨p', h1, h2, _, _⟩ := Ea.own h
      rw [z] at h1
      cases h1
      exact E.new n h2
    · rw [if_neg hi] at q1
      exact q1.elim
theorem ss_par2 {i j : Nat} {o1 o2 : Bool} {f1 f2 : DE} {x y : Str} {px py pt pt2 : Pos} {kt k2 : Nat} (ha : SPar c N sc k [a, b] [(i, o1, f1), (j, o2, f2)]) (hi : N[i]? = some x := by rfl) (hj : N[j]? = some y := by rfl) (hij : i ≠ j := by decide)
    (hx : sc.names.lookup x = some .local := by rfl) (hy : sc.names.lookup y = some .local := by rfl)
    (hw : ∀ env : PySem.Env, env.scope = sc → swappedStores [.Tuple [.Name x px, .Name y py] kt pt] (.Tuple [a, b] k2 pt2) env = pure (some [x, y]) := by rintro ⟨_, _⟩ h; cases h; rfl)
    (hs : ∀ env : PySem.Env, env.scope = sc → swapsWithSole [.Tuple [.Name x px, .Name y py] kt pt] (.Tuple [a, b] k2 pt2) pos.line env = pure false := by intro _ _; rfl) :
    SS c N sc k (.Assign [.Tuple [.Name x px, .Name y py] kt pt] (.Tuple [a, b] k2 pt2) pos) (sPar [(i, o1, f1), (j, o2, f2)]) := fun X W gd tp tk => by
  refine ⟨fun pins s σ H D I h => ?_⟩
  have h0 := ps_par (X := X) (pos := pos) (i := i) (j := j) gd.calm (by rw [gd.hN]; exact gd.nd) (by rw [gd.hN]; exact hi) (by rw [gd.hN]; exact hj) hij (by rw [gd.hsc]; exact hx) (by rw [gd.hsc]; exact hy) (ha X W gd tk σ D) (hw _ gd.hsc) (hs _ gd.hsc)
  refine h0.run pins s σ H D I ?_
  obtain ⟨A, H₀, S, G, ρ, E, q⟩ := h
  refine ⟨A, H₀, S, G, ρ, σ, ρ, E, E, q, fun vs H' hl z => ?_⟩
  match vs, hl with
  | [v, w], _ => exact ⟨v, w, rfl, z⟩
theorem ss_par3 {i j l : Nat} {o1 o2 o3 : Bool} {f1 f2 f3 : DE} {x y z : Str} {px py pz pt pt2 : Pos} {kt k2 : Nat} (ha : SPar c N sc k [a, b, d] [(i, o1, f1), (j, o2, f2), (l, o3, f3)]) (hi : N[i]? = some x := by rfl) (hj : N[j]? = some y := by rfl) (hl : N[l]? = some z := by rfl) (hij : i ≠ j := by decide) (hil : i ≠ l := by decide) (hjl : j ≠ l := by decide)
    (hx : sc.names.lookup x = some .local := by rfl) (hy : sc.names.lookup y = some .local := by rfl) (hz : sc.names.lookup z = some .local := by rfl)
    (hw : ∀ env : PySem.Env, env.scope = sc → swappedStores [.Tuple [.Name x px, .Name y py, .Name z pz] kt pt] (.Tuple [a, b, d] k2 pt2) env = pure (some [x, y, z]) := by rintro ⟨_, _⟩ h; cases h; rfl)
    (hs : ∀ env : PySem.Env, env.scope = sc → swapsWithSole [.Tuple [.Name x px, .Name y py, .Name z pz] kt pt] (.Tuple [a, b, d] k2 pt2) pos.line env = pure false := by intro _ _; rfl) :
    SS c N sc k (.Assign [.Tuple [.Name x px, .Name y py, .Name z pz] kt pt] (.Tuple [a, b, d] k2 pt2) pos) (sPar [(i, o1, f1), (j, o2, f2), (l, o3, f3)]) := fun X W gd tp tk => by
  refine ⟨fun pins s σ H D I h => ?_⟩
  have h0 := ps_par3 (X := X) (pos := pos) (i := i) (j := j) (l := l) gd.calm (by rw [gd.hN]; exact gd.nd) (by rw [gd.hN]; exact hi) (by rw [gd.hN]; exact hj) (by rw [gd.hN]; exact hl) hij hil hjl (by rw [gd.hsc]; exact hx) (by rw [gd.hsc]; exact hy) (by rw [gd.hsc]; exact hz) (ha X W gd tk σ D) (hw _ gd.hsc) (hs _ gd.hsc)
  refine h0.run pins s σ H D I ?_
  obtain ⟨A, H₀, S, G, ρ, E, q⟩ := h
  refine ⟨A, H₀, S, G, ρ, σ, ρ, E, E, q, fun vs H' hl z => ?_⟩
  match vs, hl with
  | [u, v, w], _ => exact ⟨u, v, w, rfl, z⟩
/-- name = [..], the name a local: exchanged with the comprehension's end -/
theorem ss_setLc {i : Nat} {x : Str} {ifs : List Expr} {scope : Scope} {own : List (Str × Nat)} {vs : List Nat} {py : Pos} {o : Bool} (hi : SI c N sc k tg it fi) (hg : SG c N (rsc scope sc) k (fun x => scope.names.lookup x == some .cell) vs tg dg) (ht : STs c N (rsc scope sc) k ifs t) (he : SE c N (rsc scope sc) k ex f)
    (hsw : ∀ env : PySem.Env, env.scope = sc → swapsWith (.ListComp ex [⟨tg, it, ifs, 0⟩] scope pos') (some (.Name x py)) pos.line env = pure true := by rintro ⟨_, _⟩ h; cases h; rfl)
    (hN : N[i]? = some x := by rfl) (hx : sc.names.lookup x = some .local := by rfl) (ok : blkC N sc scope own = true := by first | decide +kernel | (dsimp only; decide +kernel)) (hv : own.map (·.2) = vs := by rfl)
    (hs : ∀ (env : PySem.Env) x, foldedSetIterable it env x = pure x := by intro _ _; rfl) : SS c N sc k (.Assign [.Name x py] (.ListComp ex [⟨tg, it, ifs, 0⟩] scope pos') pos) (if o = true then sSetO i (eLc fi vs dg t f) else sSet i (eLc fi vs dg t f)) := fun X W gd tp tk => by
  subst hv
  refine PS_mono (ps_setLc (i := i) gd.calm (by rw [gd.hN]; exact gd.nd) (by rw [gd.hN]; exact hN) (by rw [gd.hsc]; exact hx) (hsw _ gd.hsc) (hi X W gd tk) (by rw [gd.hN, gd.hsc]; exact blkOk_by ok) (fun s H C cl fp => hg _ (good_blk gd s H C cl fp) fun x z => z) (fun s H C cl fp => ht _ _ (good_blk gd s H C cl fp) takesN0) (fun s H C cl fp => he _ _ (good_blk gd s H C cl fp) takesN0) (hs _)) fun D σ H ⟨A, H₀, S, G, ρ, E, q⟩ => ?_
  refine tLc_of (W := W) gd ?_
  cases o with
  | true =>
    rw [if_pos rfl] at q
    refine rdF_stm E q fun d a H1 n e r q1 => ?_
    by_cases hl : i < ρ.length
    · rw [if_pos hl] at q1
      exact q1 _ H1 _ (E.setO e n r hl)
    · rw [if_neg hl] at q1
      exact q1.elim
  | false =>
    rw [if_neg Bool.false_ne_true] at q
    refine rdF_stm E q fun d a H1 n e r q1 => ?_
    have q1 : RO c A H₀ W G (match gSet i d ρ with | .ok ρ' => .nx ρ' | _ => .stuck) D := q1
    unfold gSet at q1
    by_cases hl : i < ρ.length
    · rw [if_pos hl] at q1
      exact q1 _ H1 S ((E.ext e).set ((r.weak fun b z => .inl z).rp fun z => E.new n z))
    · rw [if_neg hl] at q1
      exact q1.elim
/-! ### append, extend -/
theorem ss_append {i : Nat} {x : Str} {p1 ap cp : Pos} (ha : SE c N sc k a f) (hN : N[i]? = some x := by rfl) (hv : Vis sc x := by first | exact Or.inl rfl | exact Or.inr (Or.inl rfl) | exact Or.inr (Or.inr rfl))
    (hd : (x == ("__debug__" : Str)) = false := by decide) (hcd : (x == ("__classdict__" : Str)) = false := by decide)
    (hbase : ∀ env : PySem.Env, attributeBase (.Name x p1) "append" env (eval (.Name x p1) env) = eval (.Name x p1) env := by intro _; rfl)
    (hfew : ∀ env : PySem.Env, ((backTo cp (starEach [a] env)).all (fun x => !x.1) && (backToKw cp (keywordEach [] env)).all (fun x => x.1.isSome)
      && decide (([a] : List Expr).length + ([] : List Keyword).length + (if ([] : List Keyword).isEmpty then 0 else 1) < 30)) = true := by intro _; rfl)
    (hline : (ap.endLine == cp.line) = true := by rfl) (hs : ∀ env : PySem.Env, starEach [a] env = (false, eval a env) :: starEach [] env := by intro _; rfl) :
    SS c N sc k (.Expr (.Call (.Attribute (.Name x p1) "append" ap) [a] [] cp) pos) (sAppend i f) := fun X W gd tp tk =>
  PS_mono (ps_expr (pe_bm PySem.F.plainAttrs_list PySem.F.slot_list_append PySem.F.type_list_append mt_append (pe_var (i := i) (by rw [gd.hN]; exact hN) (by rw [gd.hsc]; exact hv) hd hcd) (pa_cons (ha X W gd tk) pa_nil (hs _)) (hbase _) (hfew _) hline (hs _) rfl) rfl) fun D σ H ⟨A, H₀, S, G, ρ, E, q⟩ => by
    unfold sAppend at q
    split at q
    · rename_i xs z
      obtain ⟨p, h1, h2, h3, vs, h4, ra⟩ := E.own z
      refine ⟨.ref p, h1, .inl ⟨rfl, vs, .inl (.inl h4)⟩, ?_⟩
      refine rdE_stm E q fun d v H1 _ e r E1 q1 => ?_
      have h5 := ext_lst e.n h4
      by_cases hl : xs.length < line
      · rw [if_pos hl] at q1
        refine ⟨p, vs, v, rfl, rfl, h5, by rw [ra.length]; exact hl, q1 σ _ S (E1.wr z h1 ⟨vs ++ [v], upd_same, ?_⟩)⟩
        exact ((ra.ext e.n).wr h2 h5 trivial).append (.cons (r.wr h2 h5 trivial) .nil)
      · rw [if_neg hl] at q1
        exact q1.elim
    · exact q.elim
theorem ss_extend {i : Nat} {x : Str} {p1 ap cp : Pos} (ha : ST c N sc k a f) (hN : N[i]? = some x := by rfl) (hv : Vis sc x := by first | exact Or.inl rfl | exact Or.inr (Or.inl rfl) | exact Or.inr (Or.inr rfl))
    (hd : (x == ("__debug__" : Str)) = false := by decide) (hcd : (x == ("__classdict__" : Str)) = false := by decide)
    (hbase : ∀ env : PySem.Env, attributeBase (.Name x p1) "extend" env (eval (.Name x p1) env) = eval (.Name x p1) env := by intro _; rfl)
    (hfew : ∀ env : PySem.Env, ((backTo cp (starEach [a] env)).all (fun x => !x.1) && (backToKw cp (keywordEach [] env)).all (fun x => x.1.isSome)
      && decide (([a] : List Expr).length + ([] : List Keyword).length + (if ([] : List Keyword).isEmpty then 0 else 1) < 30)) = true := by intro _; rfl)
    (hline : (ap.endLine == cp.line) = true := by rfl) (hs : ∀ env : PySem.Env, starEach [a] env = (false, eval a env) :: starEach [] env := by intro _; rfl) :
    SS c N sc k (.Expr (.Call (.Attribute (.Name x p1) "extend" ap) [a] [] cp) pos) (sExtend i f) := fun X W gd tp tk =>
  PS_mono (ps_expr (pe_bm PySem.F.plainAttrs_list PySem.F.slot_list_extend PySem.F.type_list_extend mt_extend (pe_var (i := i) (by rw [gd.hN]; exact hN) (by rw [gd.hsc]; exact hv) hd hcd) (pa_cons (ha X W gd tk) pa_nil (hs _)) (hbase _) (hfew _) hline (hs _) rfl) rfl) fun D σ H ⟨A, H₀, S, G, ρ, E, q⟩ => by
    unfold sExtend at q
    split at q
    · rename_i xs z
      obtain ⟨p, h1, h2, h3, vs, h4, ra⟩ := E.own z
      refine ⟨.ref p, h1, .inl ⟨rfl, vs, .inl (.inl h4)⟩, ?_⟩
      refine rdT_stm E q fun d v H1 _ e r E1 q1 => ?_
      have h5 := ext_lst e.n h4
      cases d with
      | lst ys =>
        obtain ⟨b, ws, rfl, hb, rb⟩ := r
        by_cases hl : xs.length + ys.length ≤ line
        · have q1 : RO c A H₀ W G (if xs.length + ys.length ≤ line then .nx (ρ.set i (some (.own (.lst (xs ++ ys))))) else .stuck) D := q1
          rw [if_pos hl] at q1
          refine ⟨p, b, vs, ws, rfl, rfl, h5, hb, by rw [ra.length, rb.length]; exact hl, q1 σ _ S (E1.wr z h1 ⟨vs ++ ws, upd_same, ?_⟩)⟩
          exact ((ra.ext e.n).wr h2 h5 trivial).append (rb.wr h2 h5 trivial)
        · have q1 : RO c A H₀ W G (if xs.length + ys.length ≤ line then .nx (ρ.set i (some (.own (.lst (xs ++ ys))))) else .stuck) D := q1
          rw [if_neg hl] at q1
          exact q1.elim
      | _ => exact q1.elim
    · exact q.elim
/-! ### raise -/
/-- an own class of exceptions -/
structure XCls (c : Cfg) (j : Nat) (x : Str) : Prop where
  g : c.mg x = some (.ref (c.xc j))
  xi : ∃ bs, PySem.W.excIn c.K (c.xc j) bs "ValueError.__new__" = true ∧ bs = [.type "ValueError", .type "Exception", .type "BaseException", .type "object"]
  kp : PySem.W.keepIn c.K (.ref (c.xc j)) = true
  b : PySem.W.subIn c.K (.ref (c.xc j)) (.type "BaseException") = some true
  ty : PySem.W.typeIn c.K (.ref (c.xc j)) = some (.type "type")
theorem ss_raise {j l : Nat} {x m : Str} {p p2 p3 : Pos} (x1 : XCls c j x) (hg : sc.names.lookup x = some .globalImplicit := by rfl) (hdb : (x == ("__debug__" : Str)) = false := by decide) :
    SS c N sc k (.Raise (some (.Call (.Name x p) [.Constant (.str m) l p2] [] p3)) none pos) (sRaise j) := fun X W gd tp tk => by
  obtain ⟨bs, q, rfl⟩ := x1.xi
  exact PS_mono (L2N.ps_raise gd.calm tk (L2N.pmk_own PySem.F.excBase_ValueError (by rw [gd.hK]; exact q) (by rw [gd.hmg]; exact x1.g) (by rw [gd.hK]; exact x1.kp) (raises_own (by rw [gd.hK]; exact x1.b) (by rw [gd.hK]; exact x1.ty)) (gl_of gd hg) hdb)) fun D σ H ⟨A, H₀, S, G, ρ, E, q⟩ => q σ H S E
end
/-! ### a def -/
section
variable {c : Cfg} {N ps : List Str} {k n : Nat} {x qual : Str} {st : Stmt} {f : Addr} {fd : FuncData} {F : DS}
theorem start_env {H : Hp} {A : Addr → Prop} {vs : List V} {ds : List D} (r : RpAll c.K H A vs ds) (hA : ∀ a, A a → ∃ o, H a = some o ∧ ∀ ps, o ≠ .tbl ps) (tb : LamX.Tabs c.T H) (hl : ds.length ≤ N.length) :
    EnvR c A H A [] (L2.start N vs) H (ds.map (fun d => some (.sh d)) ++ List.replicate (N.length - ds.length) none) := by
  have sh : ∀ (i : Nat) (x : SV), (ds.map (fun d => some (SV.sh d)) ++ List.replicate (N.length - ds.length) none)[i]? = some (some x) → ∃ d, x = .sh d ∧ ds[i]? = some d := fun i x h => by
    by_cases hi : i < ds.length
    · rw [List.getElem?_append_left (by rw [List.length_map]; exact hi), List.getElem?_map, List.getElem?_eq_getElem hi] at h
      cases h
      exact ⟨_, rfl, List.getElem?_eq_getElem hi⟩
    · rw [List.getElem?_append_right (by rw [List.length_map]; omega)] at h
      have := List.mem_of_getElem? h
      rw [List.mem_replicate] at this
      cases this.2
  refine ⟨?_, fun i x h => ?_, fun i j d e a h => ?_, hA, fun a h => ⟨h, fun z => ?_⟩, fun p hp => (nomatch hp), Ext.refl, tb⟩
  · rw [List.length_append, List.length_map, List.length_replicate]
    unfold L2.start
    first
      | (rw [List.length_append, List.length_map, List.length_replicate, r.length])
      | (simp [r.length]; omega)
  · obtain ⟨d, rfl, hd⟩ := sh i x h
    obtain ⟨v, h1, h2⟩ := r.get hd
    refine ⟨v, ?_, h2⟩
    have hi : i < vs.length := (List.getElem?_eq_some_iff.mp h1).1
    unfold L2.start
    rw [List.getElem?_append_left (by rw [List.length_map]; exact hi), List.getElem?_map, h1]
    rfl
  · obtain ⟨d', hd, _⟩ := sh i _ h
    cases hd
  · obtain ⟨o, e, _⟩ := hA a h
    rw [z] at e
    cases e
theorem okN {P : Program} {w : World} {K : PySem.W.Frag} {mg : Str → Option Value} {base : Heap} {x qual : Str} {st : Stmt} {f : Addr} {fd : FuncData} {N ps : List Str} {k : Nat} {sp : Sp} (F : Fun K x qual st f fd) (S : FnScope N ps (defScope st)) (len : ∀ vs H Q E, sp vs H Q E → vs.length = ps.length)
    (hbody : ∀ (cdv : Value) (A : Around) (outer : List PySem.Env) (s : Shared) (H : Hp) (vs : List V) (Q : VK) (E : XK), Room k (A.deeper (envOfC qual (defScope st) s.heap.objs.size f cdv)) → sp vs H Q E →
      ∃ t, PSs (cxOf (L2N.CX P w) P w K mg base N qual (defScope st) f cdv A outer s H E) (defBody st) t ∧ t { nx := fun _ H' => Q .non H', rt := Q } (start N vs) H) : FnOk P w K mg base (L2N.CX P w) (k + 1) f fd ps sp := by
  obtain ⟨oc, od, kV, doc, pm, an, cdv, ct, osl, rfl, lk, hcd⟩ := F.ex
  exact fn_of lk hcd S len fun A outer s H vs Q E hr hsp => hbody cdv A outer s H vs Q E hr hsp
theorem fn_ok (Fn : Fun c.K x qual st f fd) (S : FnScope N ps (defScope st)) (hn : n = ps.length) (hb : SSs c N ⟨defScope st, none⟩ k (defBody st) F) : FnOk c.P c.w c.K c.mg c.base (L2N.CX c.P c.w) (k + 1) f fd ps (spD c n (runF N.length F)) := by
  refine okN Fn S (fun vs H Q E h => ?_) (fun cdv A outer s H vs Q E hr h => ?_)
  · obtain ⟨ds, A, h1, h2, _⟩ := h
    rw [h2.length, h1, hn]
  · obtain ⟨ds, Av, h1, h2, h3, h4, h5⟩ := h
    have gd : Good c N ⟨defScope st, none⟩ k (cxOf (L2N.CX c.P c.w) c.P c.w c.K c.mg c.base N qual (defScope st) f cdv A outer s H E) := ⟨rfl, rfl, rfl, rfl, rfl, rfl, rfl, S.nd, rfl, hr, fun z h => nomatch h⟩
    have tp : Top (cxOf (L2N.CX c.P c.w) c.P c.w c.K c.mg c.base N qual (defScope st) f cdv A outer s H E) := ⟨fun _ => rfl, passes_of rfl⟩
    refine ⟨_, hb _ (fun cls d σ H => E cls d H) gd tp (L2N.takes_of rfl rfl rfl rfl), Av, H, Av, [], _, start_env h2 h3 h4 ?_, ?_⟩
    · have e := congrArg List.length S.pre
      rw [List.length_take] at e
      omega
    · rw [h1]
      unfold runF at h5
      rw [h1] at h5
      cases z : F (ds.map (fun d => some (.sh d)) ++ List.replicate (N.length - n) none) with
      | nx ρ' =>
        rw [z] at h5
        exact fun σ' H' S' E' => h5 .non H' E'.e0 .non
      | rt d =>
        rw [z] at h5
        exact fun v H' e r => h5 v H' e r
      | bk ρ' => rw [z] at h5; exact h5.elim
      | ct ρ' => rw [z] at h5; exact h5.elim
      | exc j ρ' =>
        rw [z] at h5
        exact fun σ' H' S' E' => h5 H' E'.e0
      | stuck => rw [z] at h5; exact h5
end
end NB
end

section
set_option Elab.async false
set_option linter.all false
set_option maxRecDepth 100000
/-! NBEnd: zip, enumerate, a reversed list, range down, list(range(..)); names of the module; a law's end. -/
namespace NB
open PySem PySem.Spec PyProof.Rows L2
section
variable {c : Cfg} {N : List Str} {sc : Sco} {k : Nat} {a b tg ex it : Expr} {f g : DE} {t : DT} {fi : DI} {dg : DG} {pos pos' : Pos}
theorem zip_get : ∀ (xs ys : List D) (i : Nat) (d : D), (zipL xs ys)[i]? = some d → ∃ x y, xs[i]? = some x ∧ ys[i]? = some y ∧ d = .tup [x, y]
  | [], _, _, _, h => by cases h
  | _ :: _, [], _, _, h => by cases h
  | x :: xs, y :: ys, 0, d, h => by
    cases h
    exact ⟨x, y, rfl, rfl, rfl⟩
  | x :: xs, y :: ys, i + 1, d, h => zip_get xs ys i d h
theorem zip_end : ∀ (xs ys : List D) (i : Nat), (zipL xs ys).length ≤ i → xs.length ≤ i ∨ ys.length ≤ i
  | [], _, _, _ => .inl (Nat.zero_le _)
  | _ :: _, [], _, _ => .inr (Nat.zero_le _)
  | x :: xs, y :: ys, 0, h => by
    exact absurd h (by show ¬ (zipL xs ys).length + 1 ≤ 0; omega)
  | x :: xs, y :: ys, i + 1, h => by
    have h : (zipL xs ys).length + 1 ≤ i + 1 := h
    rcases zip_end xs ys i (by omega) with z | z
    · exact .inl (by rw [List.length_cons]; omega)
    · exact .inr (by rw [List.length_cons]; omega)
theorem pair_ok {H : Hp} {S : Addr → Prop} {T : Addr} {x y : V} {dx dy : D} (hT : H T = none) (rx : Rp c.K H S x dx) (ry : Rp c.K H S y dy) : Ext c.T H (upd H T (.tup [x, y])) ∧ Rp c.K (upd H T (.tup [x, y])) S (.ref T) (.tup [dx, dy]) := by
  have e : Ext c.T H (upd H T (.tup [x, y])) := Ext.new hT
  exact ⟨e, .tup (.inl (.inl upd_same)) (.cons (rx.ext e.n) (.cons (ry.ext e.n) .nil))⟩
end
/-! ### enumerate, ranges -/
section
variable {c : Cfg} {N : List Str} {sc : Sco} {k : Nat} {a b tg ex it : Expr} {f g : DE} {t : DT} {fi : DI} {dg : DG} {pos pos' : Pos}
theorem enum_get : ∀ (xs : List D) (j : Int) (i : Nat) (d : D), (enumL j xs)[i]? = some d → ∃ x, xs[i]? = some x ∧ d = .tup [.int (j + i), x]
  | [], _, _, _, h => by cases h
  | x :: xs, j, 0, d, h => by
    cases h
    exact ⟨x, rfl, by simp⟩
  | x :: xs, j, i + 1, d, h => by
    obtain ⟨y, h1, h2⟩ := enum_get xs (j + 1) i d h
    refine ⟨y, h1, ?_⟩
    rw [h2]
    congr 3
    omega
theorem enum_len : ∀ (xs : List D) (j : Int), (enumL j xs).length = xs.length
  | [], _ => rfl
  | x :: xs, j => by
    show (enumL (j + 1) xs).length + 1 = xs.length + 1
    rw [enum_len xs]
theorem si_down {p p1 p2 p3 : Pos} {j : Nat} (hm : c.mg "range" = none) (ha : ST c N sc k a f) (hb : ST c N sc k b g) (hg : sc.names.lookup ("range" : Str) = some .globalImplicit := by rfl)
    (hs : ∀ env : PySem.Env, starEach [a, b, .UnaryOp .USub (.Constant (.int 1) j p1) p2] env = (false, eval a env) :: starEach [b, .UnaryOp .USub (.Constant (.int 1) j p1) p2] env := by intro _; rfl)
    (hs2 : ∀ env : PySem.Env, starEach [b, .UnaryOp .USub (.Constant (.int 1) j p1) p2] env = (false, eval b env) :: starEach [.UnaryOp .USub (.Constant (.int 1) j p1) p2] env := by intro _; rfl)
    (hpl : ∀ env : PySem.Env, (backTo pos (starEach [b, .UnaryOp .USub (.Constant (.int 1) j p1) p2] env)).any (·.1) = false := by intro _; rfl) :
    SI c N sc k tg (.Call (.Name "range" p) [a, b, .UnaryOp .USub (.Constant (.int 1) j p1) p2] [] pos) (iRangeDown f g) := fun X W gd tk =>
  PI_mono (pi_range3 (gl_of gd hg) (by rw [gd.hmg]; exact hm) (pa_cons (ha X W gd tk) (pa_cons (hb X W gd tk) (pa_cons (pe_un un_neg pe_int) pa_nil rfl) (hs2 _)) (hs _)) (hs _) (hpl _)) fun σ H R ⟨A, H₀, S, G, ρ, E, q⟩ => by
    refine rdT_bind (Z := RI c S W σ H R) E q (fun j z => z) (fun z => z) fun x v H1 e r1 E1 q1 => ?_
    refine rdT_bind (Z := RI c S W σ H R) E1 q1 (fun j z => RX.ext e z) (fun z => z) fun y u H2 e2 r2 E2 q2 => ?_
    refine ⟨1, rfl, ?_⟩
    cases x with
    | int i =>
      cases y with
      | int j =>
        cases two r1
        cases two r2
        have q2 : RI c S W σ H R (if -big ≤ i ∧ i < big ∧ -big ≤ j ∧ j < big then .ok (downL i (i - j).toNat) else .stuck) := q2
        split at q2
        · rename_i hb
          refine ⟨i, j, -1, (i - j).toNat, rfl, .neg ?_ ?_ ?_ ?_, q2 _ H2 [] (e.trans e2) (fun y hy => nomatch hy) itOk_down⟩
          · rw [big_eq]; exact hb.1
          · rw [big_eq]; exact hb.2.1
          · rw [big_eq]; exact hb.2.2.1
          · rw [big_eq]; exact hb.2.2.2
        · exact q2.elim
      | _ => exact q2.elim
    | _ => exact q2.elim
/-! ### name = [..] -/
theorem ss_setLcS {i : Nat} {x : Str} {ifs : List Expr} {scope : Scope} {own : List (Str × Nat)} {vs : List Nat} {py : Pos} (hi : SI c N sc k tg it fi) (hg : SG c N (rsc scope sc) k (fun x => scope.names.lookup x == some .cell) vs tg dg) (ht : STs c N (rsc scope sc) k ifs t) (he : SE c N (rsc scope sc) k ex f)
    (hk : sc.s.kind = .function := by rfl) (hl : (py.line == pos'.line) = true := by rfl) (hn : (scope.names.any fun (n, k) => n == x && (k == .local || k == .cell)) = false := by decide +kernel)
    (hN : N[i]? = some x := by rfl) (hx : sc.names.lookup x = some .local := by rfl) (ok : blkC N sc scope own = true := by first | decide +kernel | (dsimp only; decide +kernel)) (hv : own.map (·.2) = vs := by rfl)
    (hs : ∀ (env : PySem.Env) x, foldedSetIterable it env x = pure x := by intro _ _; rfl) : SS c N sc k (.Assign [.Name x py] (.ListComp ex [⟨tg, it, ifs, 0⟩] scope pos') pos) (sSet i (eLc fi vs dg t f)) :=
  ss_setLc (o := false) hi hg ht he (fun env h => sw_true (by rw [h]; exact hk) (by rw [h]; exact hx) hl hn) hN hx ok hv hs
theorem ss_setLcO {i : Nat} {x : Str} {ifs : List Expr} {scope : Scope} {own : List (Str × Nat)} {vs : List Nat} {py : Pos} (hi : SI c N sc k tg it fi) (hg : SG c N (rsc scope sc) k (fun x => scope.names.lookup x == some .cell) vs tg dg) (ht : STs c N (rsc scope sc) k ifs t) (he : SE c N (rsc scope sc) k ex f)
    (hk : sc.s.kind = .function := by rfl) (hl : (py.line == pos'.line) = true := by rfl) (hn : (scope.names.any fun (n, k) => n == x && (k == .local || k == .cell)) = false := by decide +kernel)
    (hN : N[i]? = some x := by rfl) (hx : sc.names.lookup x = some .local := by rfl) (ok : blkC N sc scope own = true := by first | decide +kernel | (dsimp only; decide +kernel)) (hv : own.map (·.2) = vs := by rfl)
    (hs : ∀ (env : PySem.Env) x, foldedSetIterable it env x = pure x := by intro _ _; rfl) : SS c N sc k (.Assign [.Name x py] (.ListComp ex [⟨tg, it, ifs, 0⟩] scope pos') pos) (sSetO i (eLc fi vs dg t f)) :=
  ss_setLc (o := true) hi hg ht he (fun env h => sw_true (by rw [h]; exact hk) (by rw [h]; exact hx) hl hn) hN hx ok hv hs
theorem sw_cell {ex : Expr} {gs : List Comprehension} {scope : Scope} {x : Str} {py : Pos} {l : Nat} (hx : sc.names.lookup x = some .cell) : ∀ env : PySem.Env, env.scope = sc → swapsWith (.ListComp ex gs scope pos') (some (.Name x py)) l env = pure false := fun env h => by
  have ky : env.kindOf x = some .cell := by
    show env.scope.names.lookup x = some .cell
    rw [h]
    exact hx
  unfold swapsWith
  simp only [ky]
  have e : ((some NameKind.cell == some NameKind.local) : Bool) = false := rfl
  rw [e]
  simp
/-! ### names of the module -/
theorem se_gint {x : Str} {n : Int} (h : ∃ t, c.mg x = some (.int n t)) (hg : sc.names.lookup x = some .globalImplicit := by rfl) (hd : (x == ("__debug__" : Str)) = false := by decide) : SE c N sc k (.Name x pos) (eC (.int n)) := by
  obtain ⟨t, h⟩ := h
  exact se_glob (v := .int n) h ⟨t, rfl⟩ (fun H S => .int n) hg hd
def GStr (c : Cfg) (x : Str) (y : List Nat) : Prop := ∃ t, c.mg x = some (.str (tx y) t)
theorem se_gstr {x : Str} {y : List Nat} (h : GStr c x y) (hg : sc.names.lookup x = some .globalImplicit := by rfl) (hd : (x == ("__debug__" : Str)) = false := by decide) : SE c N sc k (.Name x pos) (eC (.str y)) := by
  obtain ⟨t, h⟩ := h
  exact se_glob (v := .str (tx y)) h ⟨t, rfl⟩ (fun H S => .str y) hg hd
/-- an object of the module -/
def GObj (c : Cfg) (x : Str) (d : D) : Prop := ∃ v u, c.mg x = some u ∧ RelV v u ∧ ∀ H S, Rp c.K H S v d
theorem se_gobj {x : Str} {d : D} (h : GObj c x d) (hg : sc.names.lookup x = some .globalImplicit := by rfl) (hd : (x == ("__debug__" : Str)) = false := by decide) : SE c N sc k (.Name x pos) (eC d) := by
  obtain ⟨v, u, h, r, hr⟩ := h
  exact se_glob h r hr hg hd
end
/-- a def of the module, that may be called by the name x -/
structure FnFact (c : Cfg) (x nm : Str) (st : Stmt) (ps : List Str) : Prop where
  ex : ∃ (f : Addr) (fd : FuncData), Fun c.K nm nm st f fd ∧ c.mg x = some (.ref f) ∧ ∀ us : List Value, us.length = ps.length → bindArgs fd ⟨us, []⟩ = pure (ps.zip us)
theorem callee_of {c : Cfg} {x nm : Str} {st : Stmt} {N ps : List Str} {k : Nat} {F : DS} (h : FnFact c x nm st ps) (S : FnScope N ps (defScope st)) (hb : SSs c N ⟨defScope st, none⟩ k (defBody st) F) : Callee c (k + 1) x ps.length (runF N.length F) := by
  obtain ⟨f, fd, h1, h2, h3⟩ := h.ex
  exact ⟨f, fd, ps, fn_ok h1 S rfl hb, h2, h1.kp, .all h3⟩
/-! ### the facts, from the top's namespace -/
section
variable {P : Program} {w : World} {K : PySem.W.Frag} {mg : Str → Option Value} {base h : Heap} {T : List (Addr × Str)} {xc : Nat → Addr}
theorem fact_fn (X : K.In h) (G : h.Ns mainGlobals mg) {x nm : Str} {st : Stmt} {ps : List Str} {f : Addr} {oc : Value} {od an : Option Addr} {osl : Array (Option Value)} {kV doc pm cdv ct : Value}
    (a : PySem.W.nsIn K mainGlobals x = some (some (.ref f))) (l : K.lookup f = some ⟨oc, od, .func (PySem.W.fnOf nm nm (defArgs st) (defBody st) (defScope st) .none kV doc pm an cdv ct), osl⟩)
    (cc : PySem.W.codeIn K cdv nm = true) (kk : PySem.W.keepIn K (.ref f) = true)
    (hb : ∀ (kV doc pm : Value) (an : Option Addr) (cdv ct : Value) (us : List Value), us.length = ps.length → bindArgs (PySem.W.fnOf nm nm (defArgs st) (defBody st) (defScope st) .none kV doc pm an cdv ct) ⟨us, []⟩ = pure (ps.zip us)) :
    FnFact ⟨P, w, K, mg, base, T, xc⟩ x nm st ps :=
  ⟨f, _, fun_mk (st := st) l cc kk, PySem.W.mg_of X G a, hb _ _ _ _ _ _⟩
theorem fact_cls (X : K.In h) (G : h.Ns mainGlobals mg) {x : Str} {j : Nat} (a : PySem.W.nsIn K mainGlobals x = some (some (.ref (xc j)))) (xi : PySem.W.excIn K (xc j) [.type "ValueError", .type "Exception", .type "BaseException", .type "object"] "ValueError.__new__" = true)
    (kp : PySem.W.keepIn K (.ref (xc j)) = true) (b : PySem.W.subIn K (.ref (xc j)) (.type "BaseException") = some true) (ty : PySem.W.typeIn K (.ref (xc j)) = some (.type "type")) : XCls ⟨P, w, K, mg, base, T, xc⟩ j x :=
  ⟨PySem.W.mg_of X G a, ⟨_, xi, rfl⟩, kp, b, ty⟩
/-- the law's promise at the top -/
def spTop (K : PySem.W.Frag) (n : Nat) : Sp := fun vs H Q _ => ∃ (a : Addr) (ns : List Int), vs = [V.ref a] ∧ ns.length ≤ n ∧ Only H ∧ SqL K H a (ns.map V.int) ∧ ∀ v H', v = V.bl true → Q v H'
theorem rp_ints {H : Hp} {S : Addr → Prop} : ∀ ns : List Int, RpAll K H S (ns.map V.int) (ns.map D.int)
  | [] => .nil
  | n :: ns => .cons (.int n) (rp_ints ns)
theorem top_ok {n : Nat} {law : List D → Res D} (hlaw : ∀ ns : List Int, ns.length ≤ n → law [.fzl (ns.map .int)] = .ok (.bl true)) :
    ∀ vs H Q E, spTop K n vs H Q E → spD ⟨P, w, K, mg, base, [], xc⟩ 1 law vs H Q E := fun vs H Q E ⟨a, ns, hv, hl, hO, hS, hQ⟩ => by
  have hF : Fzl K H a (ns.map V.int) := by
    rcases hS with (z | z) | z
    · rcases hO a with y | ⟨o, xs, y⟩
      · rw [y] at z; cases z
      · rw [y] at z; cases z
    · exact .inl z
    · exact .inr z
  refine ⟨[.fzl (ns.map .int)], fun _ => False, rfl, ?_, fun a z => z.elim, fun p hp => (nomatch hp), ?_⟩
  · rw [hv]
    exact .cons (.fzl hF (rp_ints ns)) .nil
  · rw [hlaw ns hl]
    intro v H' _ r
    cases r
    exact hQ _ H' rfl
theorem top_F {base₀ : Heap} {P : Program} {w : World} {K : PySem.W.Frag} {mg : Str → Option Value} {xc : Nat → Addr} {x nm p : Str} {st : Stmt} {N : List Str} {k n : Nat} {F : DS} {fa : Addr} (hfa : mg x = some (.ref fa)) (C : FnFact ⟨P, w, K, mg, base₀, [], xc⟩ x nm st [p]) (S : FnScope N [p] (defScope st))
    (hb : ∀ base : Heap, SSs ⟨P, w, K, mg, base, [], xc⟩ N ⟨defScope st, none⟩ k (defBody st) F) (hlaw : ∀ ns : List Int, ns.length ≤ n → runF N.length F [.fzl (ns.map .int)] = .ok (.bl true)) :
    ∃ fd : FuncData, (∀ (s : Shared) (u : Value), BindsTo s fd ⟨[u], []⟩ [(p, u)]) ∧ ∀ base : Heap, K.In base → base.Ns mainGlobals mg → FnOk P w K mg base (L2N.CX P w) (k + 1) fa fd [p] (spTop K n) := by
  obtain ⟨f, fd, h1, h2, h3⟩ := C.ex
  have e := hfa.symm.trans h2
  cases e
  refine ⟨fd, fun s u => .of_eq (h3 [u] rfl), fun base _ _ => (fn_ok (c := ⟨P, w, K, mg, base, [], xc⟩) h1 S rfl (hb base)).imp (top_ok hlaw)⟩
theorem cx_end {P : Program} {w : World} {H : Hp} {s s' : Shared} {e : Value} (h : L2N.CX P w [] H s (fun _ _ _ => False) e s') : False := by
  obtain ⟨_, _, _, _, _, _, _, _, _, _, _, _, z⟩ := h
  exact z
end
end NB
end

section
set_option Elab.async false
set_option linter.all false
set_option maxRecDepth 100000
/-! NBZip: zip and enumerate over lists, tuples, texts alike. -/
namespace NB
open PySem PySem.Spec PyProof.Rows L2
/-- what zip and enumerate walk -/
inductive Src where
  | L (a : Addr) | T (a : Addr) | X (x : Str)
def Src.at (K : PySem.W.Frag) (H : Hp) (xs : List V) : Src → Prop
  | .L a => SqL K H a xs
  | .T a => SqT K H a xs
  | .X x => xs = x.cps.toList.map fun ch => V.str ⟨#[ch]⟩
def Src.it (p : Addr) (i : Nat) (h : Heap) : Src → Prop
  | .L a => h.IsListIter p a i ∧ a ≠ p
  | .T a => h.IsTupleIter p a i ∧ a ≠ p
  | .X x => ∃ t, h.IsStrIter p (strIterType x) x t i
def Src.base : Src → List Addr
  | .L a => [a]
  | .T a => [a]
  | .X _ => []
def Src.v : Src → V
  | .L a => .ref a
  | .T a => .ref a
  | .X x => .str x
section
variable {X : Cx} {pins : List (Addr × Obj)} {σ : L2.St} {H : Hp} {s : Shared}
theorem src_inj (I : Inv X pins σ H s) {S : Src} {xs ys : List V} (h : S.at X.K H xs) (h' : S.at X.K H ys) : xs = ys := by
  cases S with
  | L a => exact I.list_inj h h'
  | T a => exact I.tuple_inj h h'
  | X x => exact Eq.trans h (Eq.symm h')
theorem src_it {S : Src} {p : Addr} {i : Nat} {h : Heap} (q : S.it p i h) : ∃ o, h.get? p = some o ∧ ∀ v, o.data ≠ .cell v := by
  cases S with
  | L a => obtain ⟨⟨o, e, _, d⟩, _⟩ := q; exact ⟨o, e, fun v z => by rw [d] at z; cases z⟩
  | T a => obtain ⟨⟨o, e, _, d⟩, _⟩ := q; exact ⟨o, e, fun v z => by rw [d] at z; cases z⟩
  | X x => obtain ⟨t, o, e, _, d⟩ := q; exact ⟨o, e, fun v z => by rw [d] at z; cases z⟩
theorem src_keep {S : Src} {p : Addr} {i : Nat} {h h' : Heap} (q : S.it p i h) (k : ∀ o, h.get? p = some o → h'.get? p = some o) : S.it p i h' := by
  cases S with
  | L a => exact ⟨q.1.at k, q.2⟩
  | T a => exact ⟨q.1.at k, q.2⟩
  | X x => obtain ⟨t, o, e, r⟩ := q; exact ⟨t, o, k o e, r⟩
/-- what its iterator draws, as the heap stands -/
theorem src_draw (I : Inv X pins σ H s) {A : Around} (hh : A.handled = none) {S : Src} {xs : List V} (h : S.at X.K H xs) {p : Addr} {i : Nat} (q : S.it p i s.heap) :
    ∃ (P : Nat → Value → Prop) (St : Nat → Heap → Prop), Draws X.prog X.w A p (p :: S.base) xs.length P St ∧ St i s.heap ∧ (∀ j v, P j v → ∃ x, xs[j]? = some x ∧ RelV x v) ∧ ∀ j h, St j h → S.it p j h := by
  cases S with
  | L a =>
    obtain ⟨its, rv, pl, _⟩ := I.list h
    obtain ⟨q1, q2⟩ := q
    refine ⟨fun i v => its.toArray[i]? = some v, fun i h => h.IsListIter p a i ∧ h.IsList a its.toArray, by rw [rv.length, ← List.size_toArray]; exact Draws.list hh p a q2 its.toArray, ⟨q1, pl.isList⟩, fun j v hv => ?_, fun j h st => ⟨st.1, q2⟩⟩
    have hv : its.toArray[j]? = some v := hv
    rw [List.getElem?_toArray] at hv
    have hj : j < xs.length := by rw [rv.length]; exact (List.getElem?_eq_some_iff.mp hv).1
    obtain ⟨u, hu, ru⟩ := rv.get (List.getElem?_eq_getElem hj)
    rw [hv] at hu
    cases hu
    exact ⟨_, List.getElem?_eq_getElem hj, ru⟩
  | T a =>
    obtain ⟨its, rv, pl, _⟩ := I.tuple h
    obtain ⟨q1, q2⟩ := q
    refine ⟨fun i v => its.toArray[i]? = some v, fun i h => h.IsTupleIter p a i ∧ h.IsTuple a its.toArray, by rw [rv.length, ← List.size_toArray]; exact Draws.tuple hh p a q2 its.toArray, ⟨q1, pl⟩, fun j v hv => ?_, fun j h st => ⟨st.1, q2⟩⟩
    have hv : its.toArray[j]? = some v := hv
    rw [List.getElem?_toArray] at hv
    have hj : j < xs.length := by rw [rv.length]; exact (List.getElem?_eq_some_iff.mp hv).1
    obtain ⟨u, hu, ru⟩ := rv.get (List.getElem?_eq_getElem hj)
    rw [hv] at hu
    cases hu
    exact ⟨_, List.getElem?_eq_getElem hj, ru⟩
  | X x =>
    obtain ⟨t, q⟩ := q
    have h : xs = x.cps.toList.map fun ch => V.str ⟨#[ch]⟩ := h
    subst h
    refine ⟨_, _, by rw [List.length_map, Array.length_toList]; exact Draws.text hh p x t, q, fun j v hv => ?_, fun j h st => ⟨t, st⟩⟩
    obtain ⟨ch, u, hc, rfl⟩ := hv
    exact ⟨.str ⟨#[ch]⟩, by rw [List.getElem?_map, Array.getElem?_toList, hc]; rfl, ⟨u, rfl⟩⟩
end
/-- zip of two -/
def ItzS (K : PySem.W.Frag) (S1 S2 : Src) : It :=
  ⟨fun i H => ∃ (xs ys : List V) (x y : V), S1.at K H xs ∧ S2.at K H ys ∧ xs[i]? = some x ∧ ys[i]? = some y,
    fun i H v H' => ∃ T x y, v = .ref T ∧ H T = none ∧ H' = upd H T (.tup [x, y]) ∧ (∀ xs, S1.at K H xs → xs[i]? = some x) ∧ ∀ ys, S2.at K H ys → ys[i]? = some y,
    fun i H => ∃ xs ys : List V, S1.at K H xs ∧ S2.at K H ys ∧ i ≤ xs.length ∧ i ≤ ys.length ∧ (i = xs.length ∨ i = ys.length)⟩
theorem turn_zipS {P : Program} {w : World} {K : PySem.W.Frag} {elts : List Expr} {kk : Nat} {tpos : Pos} {S1 S2 : Src} {z TI TO i1 i2 : Addr} (D : ZipSep2 z TI TO i1 i2 (i1 :: S1.base) (i2 :: S2.base)) :
    Turn P w K (.Tuple elts kk tpos) (ItzS K S1 S2) [z, TI, TO, i1, i2] z (fun i h => IsZip h z TI TO .none ∧ IsTupOf2 h TI (.ref i1) (.ref i2) ∧ (∃ x y, IsTupOf2 h TO x y) ∧ S1.it i1 i h ∧ S2.it i2 i h) where
  mem := by simp
  obj := fun i h st c hc => by
    obtain ⟨hz, hTI, ⟨x, y, hTO⟩, h1, h2⟩ := st
    have e' : c = z ∨ c = TI ∨ c = TO ∨ c = i1 ∨ c = i2 := by simpa using hc
    rcases e' with q | q | q | q | q
    · rw [q]; exact ⟨_, hz, fun v q => nomatch q⟩
    · rw [q]; exact ⟨_, hTI, fun v q => nomatch q⟩
    · rw [q]; exact ⟨_, hTO, fun v q => nomatch q⟩
    · rw [q]; exact src_it h1
    · rw [q]; exact src_it h2
  keep := fun i h h' st k => by
    obtain ⟨hz, hTI, ⟨x, y, hTO⟩, h1, h2⟩ := st
    exact ⟨k z (by simp) _ hz, k TI (by simp) _ hTI, ⟨x, y, k TO (by simp) _ hTO⟩, src_keep h1 fun o q => k i1 (by simp) o q, src_keep h2 fun o q => k i2 (by simp) o q⟩
  item := by
    intro X hP hw hK hc i pins s σ H E I hf st hg
    subst hP hw hK
    obtain ⟨hz, hTI, ⟨x0, y0, hTO⟩, h1, h2⟩ := st
    obtain ⟨xs, ys, x, y, hqx, hqy, hx, hy⟩ := hg
    obtain ⟨P1, St1, D1, st1, p1, it1⟩ := src_draw I (A := X.A.in1) (I.ok.hd hc) hqx h1
    obtain ⟨P2, St2, D2, st2, p2, it2⟩ := src_draw I (A := X.A.in1) (I.ok.hd hc) hqy h2
    have hzl : z < s.heap.objs.size := Heap.lt_size hz
    refine wpAny_pyNext_zipD2_item D D1 D2 hz hTI hTO st1 st2 (List.getElem?_eq_some_iff.mp hx).1 (List.getElem?_eq_some_iff.mp hy).1 fun u u2 h' tk y1 y2 z' TO' s1' s2' hT hsz hk => ?_
    obtain ⟨x', hx', ru⟩ := p1 _ _ y1
    obtain ⟨y', hy', ru2⟩ := p2 _ _ y2
    rw [hx] at hx'
    rw [hy] at hy'
    cases hx'
    cases hy'
    refine ⟨_, rfl, wpAny_letOwnedTupleGo_zip (s := { s with heap := h', toks := tk }) z' fun h'' z'' sb => ?_⟩
    have hT2 : h''.get? s.heap.objs.size = some { cls := .type "tuple", data := .seq #[u, u2] } := (sb.2 _ (Nat.ne_of_gt hzl)).trans hT
    have new : ObjOk X.prog X.w (upd H s.heap.objs.size (.tup [x, y])) h'' s.heap.objs.size (.tup [x, y]) :=
      ⟨by show 2 ≤ sizeLine; decide, [u, u2], .cons ru (.cons ru2 .nil), ⟨_, hT2, rfl, _, rfl⟩⟩
    have I1 : Inv X pins σ (upd H s.heap.objs.size (.tup [x, y])) { s with heap := h'', toks := tk } :=
      I.turnedNew (t' := tk) (ch := [z, TI, TO, i1, i2]) (fun c o hb q => (sb.2 c (fun q' => hb (by simp [q']))).trans (hk c o (fun q' => hb (by simp [q'])) (fun q' => hb (by simp [q'])) (fun q' => hb (by simp [q'])) (fun q' => hb (by simp [q'])) q)) hf (Nat.le_refl _) new
    refine ⟨.ref s.heap.objs.size, _, I1, rfl, ⟨_, x, y, rfl, I.hok.fresh (Nat.le_refl _), rfl, fun l hl => by rw [src_inj I hl hqx]; exact hx, fun l hl => by rw [src_inj I hl hqy]; exact hy⟩, ⟨z'', ?_, ⟨u, u2, ?_⟩, ?_, ?_⟩, fun c hcm => ?_⟩
    · exact (sb.2 _ D.TIz).trans (hk _ _ D.TIz D.TITO D.TIi1 D.TIi2 hTI)
    · exact (sb.2 _ D.TOz).trans TO'
    · exact src_keep (it1 _ _ s1') fun o q => (sb.2 _ D.zi1.symm).trans q
    · exact src_keep (it2 _ _ s2') fun o q => (sb.2 _ D.zi2.symm).trans q
    · have hlt : c < s.heap.objs.size := by
        have e' : c = z ∨ c = TI ∨ c = TO ∨ c = i1 ∨ c = i2 := by simpa using hcm
        rcases e' with q | q | q | q | q
        · rw [q]; exact hzl
        · rw [q]; exact Heap.lt_size hTI
        · rw [q]; exact Heap.lt_size hTO
        · rw [q]; obtain ⟨_, e1, _⟩ := src_it h1; exact Heap.lt_size e1
        · rw [q]; obtain ⟨_, e2, _⟩ := src_it h2; exact Heap.lt_size e2
      rw [upd_ne (Nat.ne_of_lt hlt)]
      exact (hf c hcm).1
  done := by
    intro X hP hw hK hc i pins s σ H E I hf st hg
    subst hP hw hK
    obtain ⟨hz, hTI, ⟨x0, y0, hTO⟩, h1, h2⟩ := st
    obtain ⟨xs, ys, hqx, hqy, l1, l2, hend⟩ := hg
    obtain ⟨P1, St1, D1, st1, p1, it1⟩ := src_draw I (A := X.A.in1) (I.ok.hd hc) hqx h1
    obtain ⟨P2, St2, D2, st2, p2, it2⟩ := src_draw I (A := X.A.in1) (I.ok.hd hc) hqy h2
    exact wpAny_pyNext_zipD2_end D D1 D2 hz hTI hTO st1 st2 l1 l2 hend fun h' tk hk => ⟨rfl, I.turnedL (t' := tk) (ch := [z, TI, TO, i1, i2]) (fun c o hb q =>
      hk c o (fun q' => hb (by simp [q'])) (fun q' => hb (by simp [q'])) (fun q' => hb (by simp [q'])) (fun q' => hb (by simp [q'])) q) hf⟩
  self := fun A i s Q E st h => wpAny_pyIter_zip st.1 h
/-- its iterator begins -/
theorem src_begins {X : Cx} {pins : List (Addr × Obj)} {σ : L2.St} {H : Hp} {s : Shared} (I : Inv X pins σ H s) {S : Src} {xs : List V} (h : S.at X.K H xs) {v : Value} (r : RelV S.v v) :
    ∃ (o : Obj) (Hb : Heap → Prop), Begins v o Hb ∧ Hb s.heap ∧ (∀ b ∈ S.base, b < s.heap.objs.size) ∧ ∀ (p : Addr) (h' : Heap), s.heap.objs.size ≤ p → h'.get? p = some o → S.it p 0 h' := by
  cases S with
  | L a =>
    obtain ⟨its, rv, pl, _⟩ := I.list h
    have r : v = .ref a := r
    subst r
    exact ⟨_, _, begins_list a its.toArray, pl.isList, fun b hb => by rw [show b = a by simpa [Src.base] using hb]; exact pl.lt, fun p h' hp e => ⟨⟨_, e, rfl, rfl⟩, Nat.ne_of_lt (Nat.lt_of_lt_of_le pl.lt hp)⟩⟩
  | T a =>
    obtain ⟨its, rv, pl, _⟩ := I.tuple h
    have r : v = .ref a := r
    subst r
    have hlt : a < s.heap.objs.size := by obtain ⟨_, e, _⟩ := id pl; exact Heap.lt_size e
    exact ⟨_, _, begins_tuple a its.toArray, pl, fun b hb => by rw [show b = a by simpa [Src.base] using hb]; exact hlt, fun p h' hp e => ⟨⟨_, e, rfl, rfl⟩, Nat.ne_of_lt (Nat.lt_of_lt_of_le hlt hp)⟩⟩
  | X x =>
    obtain ⟨t, rfl⟩ := (r : ∃ t, v = .str x t)
    exact ⟨_, _, begins_text x t, trivial, fun b hb => by simp [Src.base] at hb, fun p h' hp e => ⟨t, ⟨_, e, rfl, rfl⟩⟩⟩
def iZipS (K : PySem.W.Frag) (ta : TA) : TI := fun σ H R => ta σ H fun vs H1 => ∃ S1 S2 xs ys, vs = [Src.v S1, Src.v S2] ∧ Src.at K H1 xs S1 ∧ Src.at K H1 ys S2 ∧ R (ItzS K S1 S2) H1
theorem pi_zipS {X : Cx} {e e2 : Expr} {ta : TA} {p pos tpos : Pos} {elts : List Expr} {kk : Nat} (hg : Gl X "zip") (hm : X.mg "zip" = none) (ha : PA X [e, e2] ta)
    (hs : starEach [e, e2] X.env = (false, eval e X.env) :: starEach [e2] X.env := by rfl) (hpl : (backTo pos (starEach [e2] X.env)).any (·.1) = false := by rfl) :
    PI X (.Tuple elts kk tpos) (.Call (.Name "zip" p) [e, e2] [] pos) (iZipS X.K ta) := by
  refine ⟨fun pins s σ H R I h => ?_⟩
  refine Call_ (ld_blt I hg hm PyProof.Rows.boot_zip (PyProof.Rows.callWith_type1 (thn (ha.run pos pins s σ H _ I h) fun us s1 ⟨vs, H1, I1, r1, q1⟩ => ?_) hs hpl))
  obtain ⟨S1, S2, xs, ys, ex, hqx, hqy, q⟩ := q1
  subst ex
  cases r1 with
  | cons r rr =>
    cases rr with
    | cons r' rr =>
      cases rr
      obtain ⟨o1, Hb1, B1, b1, l1, it1⟩ := src_begins I1 hqx r
      obtain ⟨o2, Hb2, B2, b2, l2, it2⟩ := src_begins I1 hqy r'
      refine zip_begins2 B1 B2 b1 b2 fun h' hz hTI hTO g1 g2 hsz hk => wpAny_pyIter_zip hz ?_
      have I2 : Inv X pins σ H1 { s1 with heap := h' } := I1.kept (t' := s1.toks) hk
      refine ⟨s1.heap.objs.size + 4, [s1.heap.objs.size + 4, s1.heap.objs.size + 2, s1.heap.objs.size + 3, s1.heap.objs.size, s1.heap.objs.size + 1], _, _, H1, rfl, I2, turn_zipS (zip_sep2 l1 l2), ⟨hz, hTI, ⟨_, _, hTO⟩, it1 _ _ (Nat.le_refl _) g1, it2 _ _ (Nat.le_succ _) g2⟩, fun c hcm => ?_, q⟩
      have e' : c = s1.heap.objs.size + 4 ∨ c = s1.heap.objs.size + 2 ∨ c = s1.heap.objs.size + 3 ∨ c = s1.heap.objs.size ∨ c = s1.heap.objs.size + 1 := by simpa using hcm
      have hle : s1.heap.objs.size ≤ c := by
        rcases e' with z | z | z | z | z <;> rw [z]
        · exact Nat.le_add_right _ _
        · exact Nat.le_add_right _ _
        · exact Nat.le_add_right _ _
        · exact Nat.le_refl _
        · exact Nat.le_add_right _ _
      exact I1.fpOk hle (I1.hok.fresh hle)
/-- enumerate -/
def IteS (K : PySem.W.Frag) (S1 : Src) : It :=
  ⟨fun i H => ∃ (xs : List V) (x : V), S1.at K H xs ∧ xs[i]? = some x, fun i H v H' => ∃ T x, v = .ref T ∧ H T = none ∧ H' = upd H T (.tup [.int (i : Nat), x]) ∧ ∀ xs, S1.at K H xs → xs[i]? = some x, fun i H => ∃ xs : List V, S1.at K H xs ∧ i = xs.length⟩
theorem turn_enumS {P : Program} {w : World} {K : PySem.W.Frag} {elts : List Expr} {kk : Nat} {tpos : Pos} {S1 : Src} {e it : Addr} (hne : e ≠ it) (hef : e ∉ it :: S1.base) :
    Turn P w K (.Tuple elts kk tpos) (IteS K S1) [e, it] e (fun i h => (∃ old, IsEnum h e it ((i : Nat) : Int) old) ∧ S1.it it i h) where
  mem := by simp
  obj := fun i h st b hb => by
    obtain ⟨⟨old, he⟩, h1⟩ := st
    have e' : b = e ∨ b = it := by simpa using hb
    rcases e' with z | z
    · rw [z]; exact ⟨_, he, fun v q => nomatch q⟩
    · rw [z]; exact src_it h1
  keep := fun i h h' st k => let ⟨⟨old, he⟩, hi⟩ := st; ⟨⟨old, k e (by simp) _ he⟩, src_keep hi fun o q => k it (by simp) o q⟩
  item := by
    intro X hP hw hK hc i pins s σ H E I hf st hg
    subst hP hw hK
    obtain ⟨⟨old, he⟩, hit⟩ := st
    obtain ⟨xs, x, hq, hx⟩ := hg
    obtain ⟨P1, St1, D1, st1, p1, it1⟩ := src_draw I (A := X.A.in1) (I.ok.hd hc) hq hit
    have hel : e < s.heap.objs.size := Heap.lt_size he
    have hil : it < s.heap.objs.size := by obtain ⟨_, q, _⟩ := src_it hit; exact Heap.lt_size q
    refine wpAny_pyNext_enum_itemD D1 he st1 (List.getElem?_eq_some_iff.mp hx).1 hne hef fun u h' tk y1 ho s1' hT hsz hk => ?_
    obtain ⟨x', hx', ru⟩ := p1 _ _ y1
    rw [hx] at hx'
    cases hx'
    refine ⟨_, rfl, wpAny_letOwnedTupleGo_enum (s := { s with heap := h', toks := tk + 1 }) ho fun h'' he' sb => ?_⟩
    have hT2 : h''.get? s.heap.objs.size = some { cls := .type "tuple", data := .seq #[.int i tk, u] } := (sb.2 _ (Nat.ne_of_gt hel)).trans hT
    have new : ObjOk X.prog X.w (upd H s.heap.objs.size (.tup [.int (i : Nat), x])) h'' s.heap.objs.size (.tup [.int (i : Nat), x]) :=
      ⟨by show 2 ≤ sizeLine; decide, [.int i tk, u], .cons ⟨_, rfl⟩ (.cons ru .nil), ⟨_, hT2, rfl, _, rfl⟩⟩
    have I1 : Inv X pins σ (upd H s.heap.objs.size (.tup [.int (i : Nat), x])) { s with heap := h'', toks := tk + 1 } :=
      I.turnedNew (t' := tk + 1) (ch := [e, it]) (fun b ob hb q => (sb.2 b (fun z => hb (by simp [z]))).trans (hk b ob (fun z => hb (by simp [z])) (fun z => hb (by simp [z])) q)) hf (Nat.le_refl _) new
    refine ⟨.ref s.heap.objs.size, _, I1, rfl, ⟨_, x, rfl, I.hok.fresh (Nat.le_refl _), rfl, fun ys hy => by rw [src_inj I hy hq]; exact hx⟩, ⟨⟨u, ?_⟩, src_keep (it1 _ _ s1') fun o q => (sb.2 it (Ne.symm hne)).trans q⟩, fun b hb => ?_⟩
    · have e1 : ((i + 1 : Nat) : Int) = (i : Int) + 1 := by omega
      rw [e1]; exact he'
    · have hb' : b < s.heap.objs.size := by
        have e' : b = e ∨ b = it := by simpa using hb
        rcases e' with z | z
        · rw [z]; exact hel
        · rw [z]; exact hil
      rw [upd_ne (Nat.ne_of_lt hb')]
      exact (hf b hb).1
  done := by
    intro X hP hw hK hc i pins s σ H E I hf st hg
    subst hP hw hK
    obtain ⟨⟨old, he⟩, hit⟩ := st
    obtain ⟨xs, hq, hx⟩ := hg
    obtain ⟨P1, St1, D1, st1, p1, it1⟩ := src_draw I (A := X.A.in1) (I.ok.hd hc) hq hit
    obtain ⟨f0, f1, f2, f3, f4, f5⟩ := hf it (by simp)
    subst hx
    exact wpAny_pyNext_enum_endD D1 he st1 fun h' eb => ⟨rfl, I.turned (t' := s.toks) (fun b o hb q => eb b o hb q) f0 f1 f3 f4 f5⟩
  self := fun A i s Q E st h => let ⟨⟨_, he⟩, _⟩ := st; wpAny_pyIter_enum he h
def iEnumS (K : PySem.W.Frag) (ta : TA) : TI := fun σ H R => ta σ H fun vs H1 => (∃ a xs, vs = [V.ref a] ∧ SqL K H1 a xs ∧ R (IteS K (.L a)) H1) ∨ ∃ x, vs = [V.str x] ∧ R (IteS K (.X x)) H1
theorem pi_enumS {X : Cx} {e : Expr} {ta : TA} {p pos tpos : Pos} {elts : List Expr} {kk : Nat} (hg : Gl X "enumerate") (hm : X.mg "enumerate" = none) (ha : PA X [e] ta) (hs : starEach [e] X.env = [(false, eval e X.env)] := by rfl) :
    PI X (.Tuple elts kk tpos) (.Call (.Name "enumerate" p) [e] [] pos) (iEnumS X.K ta) := by
  refine ⟨fun pins s σ H R I h => ?_⟩
  refine Call_ (ld_blt I hg hm boot_enumerate (PyProof.Rows.callWith_type1 (thn (ha.run pos pins s σ H _ I h) fun us s1 ⟨vs, H1, I1, r1, q1⟩ => ?_) hs rfl))
  have fresh : ∀ b ∈ [s1.heap.objs.size + 1, s1.heap.objs.size], FpOk X pins H1 b := fun b hb => by
    have e' : b = s1.heap.objs.size + 1 ∨ b = s1.heap.objs.size := by simpa using hb
    have hle : s1.heap.objs.size ≤ b := by
      rcases e' with z | z <;> rw [z]
      · exact Nat.le_add_right _ _
      · exact Nat.le_refl _
    exact I1.fpOk hle (I1.hok.fresh hle)
  rcases q1 with ⟨a, xs, ex, hq, q⟩ | ⟨x, ex, q⟩
  · subst ex
    cases r1 with
    | cons r rr =>
      cases rr
      cases r
      obtain ⟨its, rv, p', hz⟩ := I1.list hq
      have hlt := p'.lt
      refine call_enumerate_list p'.isList fun h' he hit hsz hk => wpAny_pyIter_enum he ?_
      have I2 : Inv X pins σ H1 { s1 with heap := h' } := I1.kept (t' := s1.toks) hk
      exact ⟨s1.heap.objs.size + 1, [s1.heap.objs.size + 1, s1.heap.objs.size], _, _, H1, rfl, I2, turn_enumS (S1 := .L a) (e := s1.heap.objs.size + 1) (it := s1.heap.objs.size) (Nat.succ_ne_self _) (by simp [Src.base]; exact Nat.ne_of_gt (Nat.lt_succ_of_lt hlt)), ⟨⟨.none, he⟩, hit, Nat.ne_of_lt hlt⟩, fresh, q⟩
  · subst ex
    cases r1 with
    | cons r rr =>
      cases rr
      obtain ⟨t, rfl⟩ := r
      refine call_enumerate_str fun h' he hit hsz hk => wpAny_pyIter_enum he ?_
      have I2 : Inv X pins σ H1 { s1 with heap := h' } := I1.kept (t' := s1.toks) hk
      exact ⟨s1.heap.objs.size + 1, [s1.heap.objs.size + 1, s1.heap.objs.size], _, _, H1, rfl, I2, turn_enumS (S1 := .X x) (e := s1.heap.objs.size + 1) (it := s1.heap.objs.size) (Nat.succ_ne_self _) (by simp [Src.base]), ⟨⟨.none, he⟩, t, hit⟩, fresh, q⟩
end NB
end

section
set_option Elab.async false
set_option linter.all false
set_option maxRecDepth 100000
/-! NBTxt: zip, enumerate; methods of texts; int(..), str(..). -/
namespace NB
open PySem PySem.Spec PyProof.Rows L2
section
variable {c : Cfg} {N : List Str} {sc : Sco} {k : Nat} {a b tg ex it : Expr} {f g : DE} {t : DT} {fi : DI} {dg : DG} {pos pos' : Pos}
theorem chars_rp {H : Hp} {S : Addr → Prop} : ∀ x : List Nat, RpAll c.K H S (x.map fun ch => V.str ⟨#[ch]⟩) (x.map fun ch => D.str [ch])
  | [] => .nil
  | ch :: x => .cons (.str [ch]) (chars_rp x)
/-- a value that is walked, as a source -/
theorem src_of {H : Hp} {S : Addr → Prop} {v : V} {d : D} {ds : List D} (r : Rp c.K H S v d) (h : zseq d = .ok ds) : ∃ s : Src, s.v = v ∧ ∀ H' S', Rp c.K H' S' v d → ∃ vs, s.at c.K H' vs ∧ RpAll c.K H' S' vs ds := by
  cases d with
  | lst xs =>
    cases h
    cases r with
    | lst n q ra =>
      rename_i p vs
      refine ⟨.L p, rfl, fun H' S' r' => ?_⟩
      cases r' with
      | lst n q ra => exact ⟨_, .inl (.inl q), ra⟩
  | tup xs =>
    cases h
    cases r with
    | tup q ra =>
      rename_i p vs
      refine ⟨.T p, rfl, fun H' S' r' => ?_⟩
      cases r' with
      | tup q ra => exact ⟨_, q, ra⟩
  | str x =>
    cases h
    cases r
    refine ⟨.X (tx x), rfl, fun H' S' r' => ⟨_, ?_, chars_rp x⟩⟩
    show (x.map fun ch => V.str ⟨#[ch]⟩) = (tx x).cps.toList.map fun ch => V.str ⟨#[ch]⟩
    rw [tx_cps]
  | _ => cases h
theorem zip_len : ∀ xs ys : List D, (zipL xs ys).length = min xs.length ys.length
  | [], _ => by simp [zipL]
  | _ :: _, [] => by simp [zipL]
  | x :: xs, y :: ys => by
    show (zipL xs ys).length + 1 = _
    rw [zip_len xs ys, List.length_cons, List.length_cons]
    omega
theorem itOk_zip {s1 s2 : Src} {v1 v2 : V} {d1 d2 : D} {xs ys : List D} (h1 : ∀ H' S', Rp c.K H' S' v1 d1 → ∃ vs, s1.at c.K H' vs ∧ RpAll c.K H' S' vs xs) (h2 : ∀ H' S', Rp c.K H' S' v2 d2 → ∃ vs, s2.at c.K H' vs ∧ RpAll c.K H' S' vs ys) :
    ItOk c (ItzS c.K s1 s2) [(v1, d1), (v2, d2)] (zipL xs ys) := fun i H S nS hg => by
  obtain ⟨vs, q1, ra⟩ := h1 H S (hg _ List.mem_cons_self)
  obtain ⟨ws, q2, rb⟩ := h2 H S (hg _ (List.mem_cons_of_mem _ List.mem_cons_self))
  refine ⟨fun d hd => ?_, fun hl => ⟨vs, ws, q1, q2, ?_⟩⟩
  · obtain ⟨x, y, hx, hy, rfl⟩ := zip_get _ _ _ _ hd
    obtain ⟨v, h1, h2⟩ := ra.get hx
    obtain ⟨w, h3, h4⟩ := rb.get hy
    refine ⟨⟨vs, ws, v, w, q1, q2, h1, h3⟩, fun z H' yl => ?_⟩
    obtain ⟨T, v', w', rfl, hT, rfl, e1, e2⟩ := yl
    have e1 := e1 vs q1
    have e2 := e2 ws q2
    rw [h1] at e1
    rw [h3] at e2
    cases e1
    cases e2
    exact pair_ok hT h2 h4
  · rw [zip_len] at hl
    rw [ra.length, rb.length]
    omega
theorem si_zip {elts : List Expr} {kk : Nat} {tpos p : Pos} (hm : c.mg "zip" = none) (ha : SE c N sc k a f) (hb : SE c N sc k b g) (hg : sc.names.lookup ("zip" : Str) = some .globalImplicit := by rfl)
    (hs : ∀ env : PySem.Env, starEach [a, b] env = (false, eval a env) :: starEach [b] env := by intro _; rfl) (hs2 : ∀ env : PySem.Env, starEach [b] env = (false, eval b env) :: starEach [] env := by intro _; rfl)
    (hpl : ∀ env : PySem.Env, (backTo pos (starEach [b] env)).any (·.1) = false := by intro _; rfl) : SI c N sc k (.Tuple elts kk tpos) (.Call (.Name "zip" p) [a, b] [] pos) (iZip f g) := fun X W gd tk =>
  PI_mono (pi_zipS (gl_of gd hg) (by rw [gd.hmg]; exact hm) (pa_cons (ha X W gd tk) (pa_cons (hb X W gd tk) pa_nil (hs2 _)) (hs _)) (hs _) (hpl _)) fun σ H R ⟨A, H₀, S, G, ρ, E, q⟩ => by
    refine rdE_bind (Z := RI c S W σ H R) E q (fun j z => z) (fun z => z) fun x v H1 e r1 E1 q1 => ?_
    refine rdE_bind (Z := RI c S W σ H R) E1 q1 (fun j z => RX.ext e z) (fun z => z) fun y u H2 e2 r2 E2 q2 => ?_
    have r1 := r1.ext e2.n
    unfold zipD at q2
    cases z1 : zseq x with
    | exc _ => cases x <;> cases z1
    | stuck => rw [z1] at q2; exact q2.elim
    | ok xs =>
    cases z2 : zseq y with
    | exc _ => cases y <;> cases z2
    | stuck => rw [z1, z2] at q2; exact q2.elim
    | ok ys =>
    rw [z1, z2] at q2
    have q2 : RI c S W σ H R (.ok (zipL xs ys)) := q2
    obtain ⟨s1, hv1, h1⟩ := src_of r1 z1
    obtain ⟨s2, hv2, h2⟩ := src_of r2 z2
    obtain ⟨vs, a1, _⟩ := h1 H2 S r1
    obtain ⟨ws, a2, _⟩ := h2 H2 S r2
    refine ⟨s1, s2, vs, ws, by rw [hv1, hv2], by rw [gd.hK]; exact a1, by rw [gd.hK]; exact a2, ?_⟩
    rw [gd.hK]
    exact q2 _ H2 [(v, x), (u, y)] (e.trans e2) (fun z hz => by
      rcases List.mem_cons.mp hz with rfl | hz
      · exact r1
      · rcases List.mem_cons.mp hz with rfl | hz
        · exact r2
        · cases hz) (itOk_zip h1 h2)
theorem itOk_enum {s1 : Src} {v1 : V} {d1 : D} {xs : List D} (h1 : ∀ H' S', Rp c.K H' S' v1 d1 → ∃ vs, s1.at c.K H' vs ∧ RpAll c.K H' S' vs xs) : ItOk c (IteS c.K s1) [(v1, d1)] (enumL 0 xs) := fun i H S nS hg => by
  obtain ⟨vs, q1, ra⟩ := h1 H S (hg _ List.mem_cons_self)
  refine ⟨fun d hd => ?_, fun hl => ⟨vs, q1, by rw [ra.length]; rw [enum_len] at hl; exact hl⟩⟩
  obtain ⟨x, hx, rfl⟩ := enum_get _ _ _ _ hd
  obtain ⟨v, h1, h2⟩ := ra.get hx
  refine ⟨⟨vs, v, q1, h1⟩, fun z H' yl => ?_⟩
  obtain ⟨T, v', rfl, hT, rfl, e1⟩ := yl
  have e1 := e1 vs q1
  rw [h1] at e1
  cases e1
  rw [Int.zero_add]
  exact pair_ok hT (.int _) h2
theorem si_enum {elts : List Expr} {kk : Nat} {tpos p : Pos} (hm : c.mg "enumerate" = none) (ha : SE c N sc k a f) (hg : sc.names.lookup ("enumerate" : Str) = some .globalImplicit := by rfl)
    (hs : ∀ env : PySem.Env, starEach [a] env = [(false, eval a env)] := by intro _; rfl) (hs' : ∀ env : PySem.Env, starEach [a] env = (false, eval a env) :: starEach [] env := by intro _; rfl) : SI c N sc k (.Tuple elts kk tpos) (.Call (.Name "enumerate" p) [a] [] pos) (iEnum f) := fun X W gd tk =>
  PI_mono (pi_enumS (gl_of gd hg) (by rw [gd.hmg]; exact hm) (pa_cons (ha X W gd tk) pa_nil (hs' _)) (hs _)) fun σ H R ⟨A, H₀, S, G, ρ, E, q⟩ => by
    refine rdE_bind (Z := RI c S W σ H R) E q (fun j z => z) (fun z => z) fun x v H1 e r1 E1 q1 => ?_
    cases x with
    | lst xs =>
      have q1 : RI c S W σ H R (.ok (enumL 0 xs)) := q1
      cases r1 with
      | lst n1 q ra =>
      rename_i p1 vs
      refine .inl ⟨p1, vs, rfl, .inl (.inl q), ?_⟩
      rw [gd.hK]
      have h1 : ∀ H' S', Rp c.K H' S' (.ref p1) (.lst xs) → ∃ vs, Src.at c.K H' vs (.L p1) ∧ RpAll c.K H' S' vs xs := fun H' S' r' => by
        cases r' with
        | lst n q ra => exact ⟨_, .inl (.inl q), ra⟩
      exact q1 _ H1 [(.ref p1, .lst xs)] e (fun z hz => by
        rw [List.mem_singleton] at hz
        subst hz
        exact .lst n1 q ra) (itOk_enum h1)
    | str x =>
      have q1 : RI c S W σ H R (.ok (enumL 0 (x.map fun c => .str [c]))) := q1
      cases r1
      refine .inr ⟨tx x, rfl, ?_⟩
      rw [gd.hK]
      refine q1 _ H1 [(V.str (tx x), .str x)] e (fun z hz => by
        rw [List.mem_singleton] at hz
        subst hz
        exact .str x) (itOk_enum (s1 := .X (tx x)) fun H' S' r' => ⟨_, ?_, chars_rp x⟩)
      show (x.map fun ch => V.str ⟨#[ch]⟩) = (tx x).cps.toList.map fun ch => V.str ⟨#[ch]⟩
      rw [tx_cps]
    | _ => exact q1.elim
end
end NB
end

section
set_option Elab.async false
set_option linter.all false
set_option maxRecDepth 100000
/-! NBTxt2: index, count, join; int(..), str(..). -/
namespace NB
open PySem PySem.Spec PyProof.Rows L2
/-! ### where a text stands in a text -/
theorem infix_first (x : List Nat) (hx : x ≠ []) : ∀ (y : List Nat) (k : Nat), infixAt x y = some k → ((y.drop k).take x.length == x) = true ∧ ∀ m, m < k → ((y.drop m).take x.length == x) = false
  | [], k, h => by
    unfold infixAt at h
    rw [if_neg (by simpa using hx)] at h
    cases h
  | c :: r, k, h => by
    unfold infixAt at h
    split at h
    · rename_i hp
      cases h
      refine ⟨?_, fun m hm => absurd hm (Nat.not_lt_zero _)⟩
      rw [List.drop_zero]
      have e := List.prefix_iff_eq_take.mp (List.isPrefixOf_iff_prefix.mp hp)
      rw [← e]
      exact beq_self_eq_true _
    · rename_i hp
      cases q : infixAt x r with
      | none => rw [q] at h; cases h
      | some j =>
        rw [q] at h
        cases h
        obtain ⟨h1, h2⟩ := infix_first x hx r j q
        refine ⟨h1, fun m hm => ?_⟩
        have hm : m < j + 1 := hm
        cases m with
        | zero =>
          rw [List.drop_zero]
          cases z : ((c :: r).take x.length == x) with
          | false => rfl
          | true =>
            exact absurd (List.isPrefixOf_iff_prefix.mpr (List.prefix_iff_eq_take.mpr (eq_of_beq z).symm)) hp
        | succ m => exact h2 m (by omega)
open Builtin.Str StrLaws in
/-- the first place, found -/
theorem occ_first {s sub : Str} {hi : Nat} : ∀ (n lo free k : Nat), free ≤ lo → lo ≤ k → k < lo + n → k + sub.length ≤ hi → subAt s sub k = true → (∀ m, m < k → subAt s sub m = false) →
    (forIn (List.range' lo n) ((#[] : Array Nat), free) (occBody s sub hi 1)).run.fst = #[k]
  | 0, lo, free, k, _, h1, h2, _, _, _ => by omega
  | n + 1, lo, free, k, hf, h1, h2, h3, h4, h5 => by
    rw [List.range'_succ, List.forIn_cons]
    unfold occBody
    by_cases e : lo = k
    · subst e
      have c1 : (((#[] : Array Nat), free).fst.size < 1 ∧ ((#[] : Array Nat), free).snd ≤ lo) ∧ lo + sub.length ≤ hi := ⟨⟨by simp, hf⟩, h3⟩
      rw [if_pos ⟨c1, h4⟩]
      show (forIn (List.range' (lo + 1) n) ((#[] : Array Nat).push lo, lo + sub.length) (occBody s sub hi 1)).run.fst = #[lo]
      have stay : ∀ (l : List Nat) (fr : Nat), (forIn l (#[lo], fr) (occBody s sub hi 1)).run.fst = #[lo] := fun l => by
        induction l with
        | nil => intro fr; rfl
        | cons a l ih =>
          intro fr
          rw [List.forIn_cons]
          unfold occBody
          rw [if_neg (by rintro ⟨⟨⟨z, _⟩, _⟩, _⟩; simp at z)]
          exact ih fr
      exact stay _ _
    · have no : subAt s sub lo = false := h5 lo (by omega)
      rw [if_neg (by rintro ⟨_, z⟩; rw [no] at z; cases z)]
      exact occ_first n (lo + 1) free k (by omega) (by omega) (by omega) h3 h4 h5
theorem occ_index {x y : List Nat} {k : Nat} (hx : x ≠ []) (h : infixAt x y = some k) : Builtin.Str.occurrences (tx y) (tx x) 0 (tx y).length 1 = [k] := by
  obtain ⟨h1, h2⟩ := infix_first x hx y k h
  have sa : ∀ m, Builtin.Str.subAt (tx y) (tx x) m = ((y.drop m).take x.length == x) := fun m => by
    rw [StrLaws.subAt_eq, tx_len, tx_cps, tx_cps]
  have hk : k + x.length ≤ y.length := by
    have e := congrArg List.length (eq_of_beq h1)
    rw [List.length_take, List.length_drop] at e
    have : 0 < x.length := List.length_pos_iff.mpr hx
    omega
  rw [StrLaws.occ_eq, occ_first (s := tx y) (sub := tx x) (hi := (tx y).length) _ 0 0 k (Nat.le_refl _) (Nat.zero_le _) (by rw [tx_len]; omega) (by rw [tx_len, tx_len]; omega) (by rw [sa]; exact h1) fun m hm => by rw [sa]; exact h2 m hm]
open Builtin.Str StrLaws in
/-- a sign's places, counted -/
theorem occ_count {s : Str} {c hi lim : Nat} (hh : hi = s.length) : ∀ (n lo : Nat) (acc : Array Nat) (free : Nat), free ≤ lo → lo + n = hi + 1 → acc.size + n ≤ lim → lo ≤ hi →
    (forIn (List.range' lo n) (acc, free) (occBody s ⟨#[c]⟩ hi lim)).run.fst.size = acc.size + (s.cps.toList.drop lo).count c
  | 0, lo, acc, free, _, h1, _, h3 => by omega
  | n + 1, lo, acc, free, hf, h1, h2, h3 => by
    rw [List.range'_succ, List.forIn_cons]
    have hl : s.cps.toList.length = hi := by rw [hh, Array.length_toList]; rfl
    unfold occBody
    by_cases e : lo < hi
    · have hd : s.cps.toList.drop lo = s.cps.toList[lo]'(by omega) :: s.cps.toList.drop (lo + 1) := List.drop_eq_getElem_cons (by omega)
      by_cases ec : s.cps.toList[lo]'(by omega) = c
      · have at' := (subAt_one s c lo).mpr (by rw [List.getElem?_eq_getElem (by omega), ec])
        rw [if_pos ⟨⟨⟨by show acc.size < lim; omega, hf⟩, by show lo + 1 ≤ hi; omega⟩, at'.2⟩]
        show (forIn (List.range' (lo + 1) n) (acc.push lo, lo + 1) (occBody s ⟨#[c]⟩ hi lim)).run.fst.size = _
        rw [occ_count hh n (lo + 1) (acc.push lo) (lo + 1) (Nat.le_refl _) (by omega) (by rw [Array.size_push]; omega) (by omega), hd, ec, List.count_cons_self, Array.size_push]
        omega
      · have no : ¬ Builtin.Str.subAt s ⟨#[c]⟩ lo = true := fun z => by
          have := (subAt_one s c lo).mp ⟨by show lo + 1 ≤ s.length; omega, z⟩
          rw [List.getElem?_eq_getElem (by omega)] at this
          exact ec (Option.some.inj this)
        rw [if_neg (by rintro ⟨_, z⟩; exact no z)]
        show (forIn (List.range' (lo + 1) n) (acc, free) (occBody s ⟨#[c]⟩ hi lim)).run.fst.size = _
        rw [occ_count hh n (lo + 1) acc free (by omega) (by omega) (by omega) (by omega), hd, List.count_cons_of_ne ec]
    · have e2 : lo = hi := by omega
      have hn : n = 0 := by omega
      subst hn
      rw [if_neg (by rintro ⟨⟨_, z⟩, _⟩; have z : lo + 1 ≤ hi := z; omega)]
      show acc.size = _
      rw [List.drop_eq_nil_of_le (by omega)]
      rfl
theorem occ_cnt (y : List Nat) (c : Nat) : Txt.count (tx y) (tx [c]) = ((y.count c : Nat) : Int) := by
  unfold Txt.count
  rw [StrLaws.occ_eq, Array.length_toList, show (tx [c]) = (⟨#[c]⟩ : Str) from rfl, occ_count (s := tx y) (c := c) rfl _ 0 #[] 0 (Nat.le_refl _) (by omega) (by simp) (Nat.zero_le _), List.drop_zero, tx_cps]
  simp
section
variable {c : Cfg} {N : List Str} {sc : Sco} {k : Nat} {a b tg ex it : Expr} {f g : DE} {t : DT} {fi : DI} {dg : DG} {pos pos' apos : Pos}
end
end NB
namespace L2
open PySem PySem.Spec PyProof.Rows
theorem PE.or' {X : Cx} {e : Expr} {t t' : TE} (h : PE X e t) (h' : PE X e t') : PE X e (fun σ H Q => t σ H Q ∨ t' σ H Q) := ⟨fun pins s σ H Q I q => q.elim (h.run pins s σ H Q I) (h'.run pins s σ H Q I)⟩
end L2
namespace NB
open PySem PySem.Spec PyProof.Rows L2
section
variable {c : Cfg} {N : List Str} {sc : Sco} {k : Nat} {a b tg ex it : Expr} {f g : DE} {t : DT} {fi : DI} {dg : DG} {pos pos' apos : Pos}
theorem firstEqv_spec {x : D} : ∀ {ys : List D} {j : Nat}, firstEqv x ys = some j → ∃ z, ys[j]? = some z ∧ z.eqv x = true ∧ ∀ m z', m < j → ys[m]? = some z' → z'.eqv x = false
  | [], j, h => by cases h
  | y :: ys, j, h => by
    unfold firstEqv at h
    split at h
    · rename_i hp
      cases h
      exact ⟨y, rfl, hp, fun m z' hm => absurd hm (Nat.not_lt_zero _)⟩
    · rename_i hp
      cases q : firstEqv x ys with
      | none => rw [q] at h; cases h
      | some i =>
        rw [q] at h
        cases h
        obtain ⟨z, h1, h2, h3⟩ := firstEqv_spec q
        refine ⟨z, h1, h2, fun m z' hm hz => ?_⟩
        have hm : m < i + 1 := hm
        cases m with
        | zero =>
          cases hz
          cases e : y.eqv x with
          | false => rfl
          | true => exact absurd e hp
        | succ m => exact h3 m z' (by omega) hz
theorem flat_all1 {K : PySem.W.Frag} {H : Hp} {S : Addr → Prop} : ∀ {vs : List V} {ys : List D}, ys.all flatD = true → RpAll K H S vs ys → vs.all flatV = true
  | _, [], _, .nil => rfl
  | _, y :: ys, h, .cons r q => by
    rw [List.all_cons, Bool.and_eq_true] at h
    rw [List.all_cons, flat_ok h.1 r.t, flat_all1 h.2 q]
    rfl
/-- o.index(x) -/
theorem se_index (ha : ST c N sc k a f) (hb : ST c N sc k b g) (hs : ∀ env : PySem.Env, starEach [b] env = [(false, eval b env)] := by intro _; rfl) (hs' : ∀ env : PySem.Env, starEach [b] env = (false, eval b env) :: starEach [] env := by intro _; rfl)
    (hbase : ∀ env : PySem.Env, attributeBase a "index" env (eval a env) = eval a env := by intro _; rfl) (hline : (apos.endLine == pos.line) = true := by rfl)
    (hfew : ∀ env : PySem.Env, ((backTo pos (starEach [b] env)).all (fun x => !x.1) && (backToKw pos (keywordEach [] env)).all (fun x => x.1.isSome)
      && decide (([b] : List Expr).length + ([] : List Keyword).length + (if ([] : List Keyword).isEmpty then 0 else 1) < 30)) = true := by intro _; rfl) :
    SE c N sc k (.Call (.Attribute a "index" apos) [b] [] pos) (eM1 isTL dIndex f g) := fun X W gd tk =>
  ((pe_m1 F.slot_str_index F.type_str_index mt_sindex (ha X W gd tk) (hb X W gd tk) (hs _) (hbase _) hline).or'
    (pe_bm PySem.F.plainAttrs_list PySem.F.slot_list_index PySem.F.type_list_index mt_index (ha X W gd tk) (pa_cons (hb X W gd tk) pa_nil (hs' _)) (hbase _) (hfew _) hline (hs' _) rfl)).mono' fun σ H Q ⟨A, H₀, S, G, ρ, E, q⟩ => by
    unfold eM1 at q
    cases z : f ρ with
    | exc j =>
      rw [z] at q
      refine .inl ⟨A, H₀, S, G, ρ, E, ?_⟩
      rw [z]
      exact q
    | stuck => rw [z] at q; exact q.elim
    | ok d =>
    rw [z] at q
    cases d with
    | str y =>
      have q : RD c S W σ H Q ((g ρ).bind fun x => dIndex (.str y) x) := q
      refine .inl ⟨A, H₀, S, G, ρ, E, ?_⟩
      rw [z]
      intro v H1 e1 r1
      cases twoS r1
      refine ⟨⟨_, rfl⟩, ?_⟩
      refine rdT_bind (Z := RD c S W σ H Q) (E.ext e1) q (fun j z => RX.ext e1 z) (fun z => z) fun x u H2 e2 r2 E2 q2 => ?_
      unfold dIndex at q2
      split at q2
      · rename_i hy
        cases hy
        split at q2
        · rename_i kk hk
          cases twoS r2
          exact ⟨_, _, kk, [], rfl, rfl, occ_index (by simp) hk, q2 _ H2 (e1.trans e2) (.int _)⟩
        · exact q2.elim
      · rename_i hy
        cases hy
      · exact q2.elim
    | lst ys =>
      have q : RD c S W σ H Q ((g ρ).bind fun x => dIndex (.lst ys) x) := q
      refine .inr ⟨A, H₀, S, G, ρ, E, ?_⟩
      rw [z]
      intro v H1 e1 r1
      obtain ⟨p, vs, rfl, hp, ra⟩ := r1
      refine ⟨.inl ⟨rfl, vs, .inl (.inl hp)⟩, ?_⟩
      refine rdT_bind (Z := RD c S W σ H Q) (E.ext e1) q (fun j z => RX.ext e1 z) (fun z => z) fun x u H2 e2 r2 E2 q2 => ?_
      have q2 : RD c S W σ H Q (if flatD x && ys.all flatD then (match firstEqv x ys with
        | some k => .ok (.int k)
        | none => .stuck) else .stuck) := by
        cases x <;> exact q2
      split at q2
      · rename_i hf
        rw [Bool.and_eq_true] at hf
        split at q2
        · rename_i kk hk
          obtain ⟨zd, h1, h2, h3⟩ := firstEqv_spec hk
          have ra2 := ra.ext e2.n
          obtain ⟨zv, g1, g2⟩ := ra2.get h1
          have fl := List.all_eq_true.mp hf.2
          refine ⟨p, vs, u, kk, zv, rfl, rfl, by rw [gd.hK]; exact .inl (.inl (ext_lst e2.n hp)), flat_ok hf.1 r2, flat_all1 hf.2 ra2, g1, ?_, fun m z' hm hz => ?_, q2 _ H2 (e1.trans e2) (.int _)⟩
          · rw [flat_eqv (fl _ (List.mem_of_getElem? h1)) hf.1 g2.t r2]
            exact h2
          · have hlt : m < ys.length := by
              rw [← ra2.length]
              exact (List.getElem?_eq_some_iff.mp hz).1
            obtain ⟨zv2, k1, k2⟩ := ra2.get (List.getElem?_eq_getElem hlt)
            rw [hz] at k1
            cases k1
            rw [flat_eqv (fl _ (List.getElem_mem hlt)) hf.1 k2.t r2]
            exact h3 m _ hm (List.getElem?_eq_getElem hlt)
        · exact q2.elim
      · exact q2.elim
    | _ => exact q.elim
/-- o.count(sign) -/
theorem se_count (ha : ST c N sc k a f) (hb : ST c N sc k b g) (hs : ∀ env : PySem.Env, starEach [b] env = [(false, eval b env)] := by intro _; rfl)
    (hbase : ∀ env : PySem.Env, attributeBase a "count" env (eval a env) = eval a env := by intro _; rfl) (hline : (apos.endLine == pos.line) = true := by rfl) :
    SE c N sc k (.Call (.Attribute a "count" apos) [b] [] pos) (eM1 isTx dCount f g) := fun X W gd tk =>
  (pe_m1 F.slot_str_count F.type_str_count mt_count (ha X W gd tk) (hb X W gd tk) (hs _) (hbase _) hline).mono' fun σ H Q ⟨A, H₀, S, G, ρ, E, q⟩ => by
    refine rdT_bind (Z := RD c S W σ H Q) E q (fun j z => z) (fun z => z) fun x v H1 e1 r1 E1 q1 => ?_
    cases x with
    | str y =>
      have q1 : RD c S W σ H Q ((g ρ).bind fun x => dCount (.str y) x) := q1
      cases twoS r1
      refine ⟨⟨_, rfl⟩, ?_⟩
      refine rdT_bind (Z := RD c S W σ H Q) E1 q1 (fun j z => RX.ext e1 z) (fun z => z) fun x u H2 e2 r2 E2 q2 => ?_
      unfold dCount at q2
      split at q2
      · rename_i hy
        cases hy
        cases twoS r2
        refine ⟨_, _, rfl, rfl, ?_⟩
        rw [occ_cnt]
        exact q2 _ H2 (e1.trans e2) (.int _)
      · exact q2.elim
    | _ => exact q1.elim
theorem joinL_eq (sep : List Nat) : ∀ xs : List (List Nat), joinL sep xs = TL.joinL sep xs
  | [] => rfl
  | [x] => rfl
  | x :: y :: r => by
    show x ++ sep ++ joinL sep (y :: r) = x ++ (sep ++ TL.joinL sep (y :: r))
    rw [joinL_eq sep (y :: r), List.append_assoc]
theorem sumLen_eq : ∀ xs : List (List Nat), ((xs.map tx).map (·.length)).sum = sumLen xs
  | [] => rfl
  | x :: r => by
    show (tx x).length + ((r.map tx).map (·.length)).sum = x.length + sumLen r
    rw [tx_len, sumLen_eq r]
/-- sep.join(xs) -/
theorem se_join (ha : ST c N sc k a f) (hb : ST c N sc k b g) (hs : ∀ env : PySem.Env, starEach [b] env = [(false, eval b env)] := by intro _; rfl)
    (hbase : ∀ env : PySem.Env, attributeBase a "join" env (eval a env) = eval a env := by intro _; rfl) (hline : (apos.endLine == pos.line) = true := by rfl) :
    SE c N sc k (.Call (.Attribute a "join" apos) [b] [] pos) (eM1 isTx dJoin f g) := fun X W gd tk =>
  (pe_join (ha X W gd tk) (hb X W gd tk) (hs _) (hbase _) hline).mono' fun σ H Q ⟨A, H₀, S, G, ρ, E, q⟩ => by
    refine rdT_bind (Z := RD c S W σ H Q) E q (fun j z => z) (fun z => z) fun x v H1 e1 r1 E1 q1 => ?_
    cases x with
    | str y =>
      have q1 : RD c S W σ H Q ((g ρ).bind fun x => dJoin (.str y) x) := q1
      cases twoS r1
      refine ⟨⟨_, rfl⟩, ?_⟩
      refine rdT_bind (Z := RD c S W σ H Q) E1 q1 (fun j z => RX.ext e1 z) (fun z => z) fun x u H2 e2 r2 E2 q2 => ?_
      unfold dJoin at q2
      split at q2
      · rename_i xs hy
        cases hy
        split at q2
        · rename_i ys hz
          split at q2
          · rename_i hl
            obtain ⟨p, vs, rfl, hp, ra⟩ := r2
            have e := strs_ok hz ra
            refine ⟨tx y, p, ys.map tx, rfl, rfl, .inl (by rw [gd.hK, ← e]; exact .inl (.inl hp)), ?_, ?_⟩
            · rw [sumLen_eq, List.length_map, tx_len]
              exact hl
            · rw [show Txt.join (tx y) (ys.map tx) = tx (joinL y ys) from by rw [joinL_eq]; exact SX.join_S y ys]
              exact q2 _ H2 (e1.trans e2) (.str _)
          · exact q2.elim
        · exact q2.elim
      · exact q2.elim
    | _ => exact q1.elim
/-! ### int(..), str(..) -/
def rInt1 : List V → Hp → VK → Prop := fun xs H Q => ((∃ i, xs = [V.int i] ∧ Q (.int i) H) ∨ ∃ k, xs = [V.bl k] ∧ Q (.int (if k then 1 else 0)) H) ∨ ∃ a n, xs = [V.str a] ∧ PySem.intText? a = some n ∧ a.length ≤ 640 ∧ Q (.int n) H
theorem cr_int : ∀ X, Good c N sc k X → CallR X (.type "int") rInt1 := fun X g => CallR.or call_int1 call_int_str
theorem digit_val {ch : Nat} {i : Int} (h : digitOf ch = some i) : PySem.intText? (tx [ch]) = some i := by
  unfold digitOf at h
  split at h
  · rename_i hd
    cases h
    rw [show tx [ch] = SX.S [ch] from rfl, SX.int_S (by simp; exact hd) (by simp) (by simp)]
    have e : NumText.digitsVal [ch] = ch - 48 := by
      unfold NumText.digitsVal
      simp
    rw [e]
    congr 1
    omega
  · cases h
theorem co_int : COps c rInt1 fInt := fun S W σ H vs ds Q nS r h => by
  unfold fInt at h
  split at h
  · obtain ⟨v, rfl, r1⟩ := r.one
    cases two r1
    exact .inl (.inl ⟨_, rfl, h _ H Ext.refl (.int _)⟩)
  · obtain ⟨v, rfl, r1⟩ := r.one
    cases twoB r1
    exact .inl (.inr ⟨_, rfl, h _ H Ext.refl (.int _)⟩)
  · split at h
    · rename_i hd
      obtain ⟨v, rfl, r1⟩ := r.one
      cases twoS r1
      exact .inr ⟨_, _, rfl, digit_val hd, by rw [tx_len]; show 1 ≤ 640; decide, h _ H Ext.refl (.int _)⟩
    · exact h.elim
  · exact h.elim
def rStr1 : List V → Hp → VK → Prop := fun xs H Q => (∃ i, xs = [V.int i] ∧ i.natAbs.log2 < 1920 ∧ Q (.str (toString i)) H) ∨ ∃ a, xs = [V.str a] ∧ Q (.str a) H
theorem cr_str : ∀ X, Good c N sc k X → CallR X (.type "str") rStr1 := fun X g => CallR.or call_str_int SkE.call_str_str
theorem co_str : COps c rStr1 fStr := fun S W σ H vs ds Q nS r h => by
  unfold fStr at h
  split at h
  · split at h
    · rename_i i hi
      obtain ⟨v, rfl, r1⟩ := r.one
      cases two r1
      refine .inl ⟨i, rfl, hi.2, ?_⟩
      have e : (V.str (toString i)) = V.str (tx (digs i.toNat)) := by
        congr 1
        have := SX.num_S i.toNat
        rw [Int.toNat_of_nonneg hi.1] at this
        exact this
      rw [e]
      exact h _ H Ext.refl (.str _)
    · exact h.elim
  · obtain ⟨v, rfl, r1⟩ := r.one
    cases twoS r1
    exact .inr ⟨_, rfl, h _ H Ext.refl (.str _)⟩
  · exact h.elim
end
end NB
end

section
set_option Elab.async false
set_option linter.all false
set_option maxRecDepth 100000
/-! NBRev: x[::-1] of texts; list(range(..)); xs[i] = v; sorted ints. -/
namespace NB
open PySem PySem.Spec PyProof.Rows L2
theorem all_pick (x : Array Nat) : (List.range x.size).filterMap (x[·]?) = x.toList := PySem.W.krv_all x
theorem rev_picked (x : Str) : (slicePicked x none none (some (-1, t))).filterMap (x.cps[·]?) = x.cps.toList.reverse := by
  have e : slicePicked x none none (some (-1, t)) = sliceRange ((x.cps.size : Int) - 1) (-1) (-1) := rfl
  rw [e, PySem.W.krv_sliceRange, PySem.W.krv_range, List.filterMap_reverse, all_pick]
def tRevS (te : TE) : TE := fun σ H Q => te σ H fun v H1 => ∃ x, v = .str x ∧ x.length ≤ sizeLine ∧ Q (.str ⟨x.cps.toList.reverse.toArray⟩) H1
theorem pe_revS {X : Cx} {e : Expr} {te : TE} {k : Nat} {p1 p2 p3 pos : Pos} (he : PE X e te) : PE X (.Subscript e (.Slice none none (some (.UnaryOp .USub (.Constant (.int 1) k p1) p2)) p3) pos) (tRevS te) := by
  refine ⟨fun pins s σ H Q I h => ?_⟩
  refine Subscript_ (thn (he.run pins s σ H _ I h) fun v s1 ⟨x, H1, I1, r1, q1⟩ => ?_)
  obtain ⟨x, rfl, hz, q⟩ := q1
  obtain ⟨t, rfl⟩ := r1
  have hst : PO X (some (.UnaryOp .USub (.Constant (.int 1) k p1) p2)) (tPart (tUn (rU fun i => .int (-i)) (tC (.int 1)))) := po_some (pe_un un_neg pe_int)
  refine wpAny_Slice (thn (po_none.run pins s1 σ H1 (fun o H2 => o = none ∧ H2 = H1) I1 ⟨rfl, rfl⟩) fun vl s2 ⟨l, H2, I2, pl, el, e2⟩ => ?_)
  subst el e2
  refine thn (po_none.run pins s2 σ H2 (fun o H3 => o = none ∧ H3 = H2) I2 ⟨rfl, rfl⟩) fun vu s3 ⟨u, H3, I3, pu, eu, e3⟩ => ?_
  subst eu e3
  refine thn (hst.run pins s3 σ H3 (fun o H4 => o = some (-1) ∧ H4 = H3) I3 ⟨1, rfl, -1, rfl, rfl, rfl⟩) fun vs s4 ⟨o, H4, I4, ps, eo, e4⟩ => ?_
  subst eo e4
  have I5 : Inv X pins σ H4 { s4 with heap := s4.heap.push { cls := .type "slice", data := .fields #[vl, vu, vs] } } := I4.kept (t' := s4.toks) fun b ob q => Heap.get?_push_of_some _ q
  cases pl
  cases pu
  cases ps with
  | int i t2 =>
  show wpAny (model X.prog X.w) X.A (subscriptTail e (.Slice none none (some (.UnaryOp .USub (.Constant (.int 1) k p1) p2)) p3) (.str x t) (.ref s4.heap.objs.size)) (EP X pins σ Q) X.xe { s4 with heap := s4.heap.push { cls := .type "slice", data := .fields #[.none, .none, .int (-1) t2] } }
  refine tail_any (ops := [.str x t, .ref s4.heap.objs.size]) (typeIs_str _ x t) (PySem.F.slot_str_getitem.lookup) ?_ (by with_unfolding_all rfl)
  refine wpAny_getItem_str_slice (l := none) (u := none) (st := some (-1, t2)) ⟨_, Heap.get?_push_size _ rfl, rfl, rfl⟩ rfl ?_
  have e1 : sliceMade x t none none (some (-1, t2)) = .str ⟨x.cps.toList.reverse.toArray⟩ := by
    unfold sliceMade
    rw [if_neg (by simp), rev_picked]
  rw [e1]
  exact ⟨by rw [show (⟨x.cps.toList.reverse.toArray⟩ : Str).length = x.length from by simp [Str.length]]; exact hz, .str _, H4, I5.tok _, ⟨_, rfl⟩, q⟩
section
variable {c : Cfg} {N : List Str} {sc : Sco} {k : Nat} {a b tg : Expr} {f g : DE} {pos pos' p1 p2 p3 : Pos}
theorem se_rev {j : Nat} (ha : ST c N sc k a f) : SE c N sc k (.Subscript a (.Slice none none (some (.UnaryOp .USub (.Constant (.int 1) j p1) p2)) p3) pos) (e1 dRev f) := fun X W gd tk =>
  ((pe_revL (ha X W gd tk)).or' (pe_revS (ha X W gd tk))).mono' fun σ H Q ⟨A, H₀, S, G, ρ, E, q⟩ => by
    unfold e1 at q
    cases z : f ρ with
    | exc j =>
      rw [z] at q
      refine .inl ⟨A, H₀, S, G, ρ, E, ?_⟩
      rw [z]
      exact q
    | stuck => rw [z] at q; exact q.elim
    | ok d =>
    rw [z] at q
    cases d with
    | lst ds =>
      refine .inl ⟨A, H₀, S, G, ρ, E, ?_⟩
      rw [z]
      intro v H1 e1 r1
      obtain ⟨p, vs, rfl, hp, ra⟩ := r1
      exact ⟨p, vs, rfl, by rw [gd.hK]; exact .inl (.inl hp), fun p' hp' => rp_newL (W := W) (σ := σ) (E.ext e1).nS (RD.ext (r := .ok (.lst ds.reverse)) e1 q) hp' ra.reverse⟩
    | str x =>
      have q : RD c S W σ H Q (if x.length ≤ line then .ok (.str x.reverse) else .stuck) := q
      split at q
      · rename_i hl
        refine .inr ⟨A, H₀, S, G, ρ, E, ?_⟩
        rw [z]
        intro v H1 e1 r1
        cases twoS r1
        refine ⟨tx x, rfl, by rw [tx_len]; exact hl, ?_⟩
        rw [tx_cps]
        exact q _ H1 e1 (.str x.reverse)
      · exact q.elim
    | _ => exact q.elim
/-! ### list(range(..)) -/
theorem rgV_eq (a b : Int) : rgV a b = (rangeL a (b - a).toNat).map fun d => match d with | .int i => V.int i | _ => V.non := by
  unfold rgV
  generalize (b - a).toNat = n
  induction n generalizing a with
  | zero => rfl
  | succ n ih =>
    rw [List.range_succ_eq_map, List.map_cons, List.map_map]
    show _ = V.int a :: ((rangeL (a + 1) n).map _)
    rw [← ih (a + 1)]
    congr 1
    · simp
    · apply List.map_congr_left
      intro i _
      show V.int (a + ((i + 1 : Nat) : Int)) = V.int (a + 1 + (i : Nat))
      congr 1
      omega
theorem rp_range {H : Hp} {S : Addr → Prop} : ∀ (n : Nat) (a : Int), RpAll c.K H S ((rangeL a n).map fun d => match d with | .int i => V.int i | _ => V.non) (rangeL a n)
  | 0, _ => .nil
  | n + 1, a => .cons (.int a) (rp_range n (a + 1))
theorem rg_cases {lo hi : Int} {W : WX} {σ : L2.St} {H H1 : Hp} {S : Addr → Prop} {Q : VK} (e : Ext c.T H H1) (nS : ∀ a, S a → H1 a ≠ none) (q : RF c S W σ H Q ((rg lo hi).bind dLst)) : RgOk lo hi ∧ ∀ p, H1 p = none → Q (.ref p) (upd H1 p (.lst (rgV lo hi))) := by
  unfold rg at q
  split at q
  · rename_i hb
    have q : RF c S W σ H Q (dLst (rangeL lo (hi - lo).toNat)) := q
    unfold dLst at q
    split at q
    · rename_i hl
      rw [range_len] at hl
      refine ⟨⟨by rw [show (2 : Int) ^ 62 = big from big_eq]; exact hb.1, by rw [show (2 : Int) ^ 62 = big from big_eq]; exact hb.2.1, by rw [show (2 : Int) ^ 62 = big from big_eq]; exact hb.2.2.1, by rw [show (2 : Int) ^ 62 = big from big_eq]; exact hb.2.2.2, hl⟩, fun p hp => ?_⟩
      rw [rgV_eq]
      exact q p _ (e.f p hp) (e.trans (Ext.new hp)) ⟨_, upd_same, rp_range _ _⟩
    · exact q.elim
  · exact q.elim
theorem sf_listRg1 {p p' : Pos} (hm : c.mg "list" = none) (hmr : c.mg "range" = none) (ha : ST c N sc k a f) (hg : sc.names.lookup ("list" : Str) = some .globalImplicit := by rfl) (hgr : sc.names.lookup ("range" : Str) = some .globalImplicit := by rfl)
    (hs : ∀ env : PySem.Env, starEach [a] env = (false, eval a env) :: starEach [] env := by intro _; rfl) (hs2 : ∀ env : PySem.Env, starEach [.Call (.Name "range" p') [a] [] pos'] env = (false, eval (.Call (.Name "range" p') [a] [] pos') env) :: starEach [] env := by intro _; rfl) :
    SF c N sc k (.Call (.Name "list" p) [.Call (.Name "range" p') [a] [] pos'] [] pos) (eLstOf (iRange1 f)) := fun X W gd tk =>
  (pe_listRg gd.calm (gl_of gd hg) (by rw [gd.hmg]; exact hm) (prg_1 (gl_of gd hgr) (by rw [gd.hmg]; exact hmr) (ha X W gd tk) (hs _)) (hs2 _)).mono' fun σ H Q ⟨A, H₀, S, G, ρ, E, q⟩ => by
    have q : RF c S W σ H Q ((f ρ).bind fun x => (match x with | .int n => rg 0 n | _ => .stuck).bind dLst) := by
      have e : eLstOf (iRange1 f) ρ = (f ρ).bind fun x => (match x with | .int n => rg 0 n | _ => .stuck).bind dLst := by
        unfold eLstOf iRange1
        cases f ρ <;> rfl
      rw [← e]
      exact q
    refine rdT_bind (Z := RF c S W σ H Q) E q (fun j z => z) (fun z => z) fun x v H1 e1 r1 E1 q1 => ?_
    cases x with
    | int n =>
      cases two r1
      exact ⟨n, rfl, rg_cases e1 E1.nS q1⟩
    | _ => exact q1.elim
theorem sf_listRg2 {p p' : Pos} (hm : c.mg "list" = none) (hmr : c.mg "range" = none) (ha : ST c N sc k a f) (hb : ST c N sc k b g) (hg : sc.names.lookup ("list" : Str) = some .globalImplicit := by rfl) (hgr : sc.names.lookup ("range" : Str) = some .globalImplicit := by rfl)
    (hs : ∀ env : PySem.Env, starEach [a, b] env = (false, eval a env) :: starEach [b] env := by intro _; rfl) (hs1 : ∀ env : PySem.Env, starEach [b] env = (false, eval b env) :: starEach [] env := by intro _; rfl) (hpl : ∀ env : PySem.Env, (backTo pos' (starEach [b] env)).any (·.1) = false := by intro _; rfl)
    (hs2 : ∀ env : PySem.Env, starEach [.Call (.Name "range" p') [a, b] [] pos'] env = (false, eval (.Call (.Name "range" p') [a, b] [] pos') env) :: starEach [] env := by intro _; rfl) :
    SF c N sc k (.Call (.Name "list" p) [.Call (.Name "range" p') [a, b] [] pos'] [] pos) (eLstOf (iRange2 f g)) := fun X W gd tk =>
  (pe_listRg gd.calm (gl_of gd hg) (by rw [gd.hmg]; exact hm) (prg_2 (gl_of gd hgr) (by rw [gd.hmg]; exact hmr) (ha X W gd tk) (hb X W gd tk) (hs _) (hs1 _) (hpl _)) (hs2 _)).mono' fun σ H Q ⟨A, H₀, S, G, ρ, E, q⟩ => by
    have q : RF c S W σ H Q ((f ρ).bind fun x => (g ρ).bind fun y => (match x, y with | .int i, .int j => rg i j | _, _ => .stuck).bind dLst) := by
      have e : eLstOf (iRange2 f g) ρ = (f ρ).bind fun x => (g ρ).bind fun y => (match x, y with | .int i, .int j => rg i j | _, _ => .stuck).bind dLst := by
        unfold eLstOf iRange2
        cases f ρ with
        | ok x => cases g ρ <;> rfl
        | exc _ => rfl
        | stuck => rfl
      rw [← e]
      exact q
    refine rdT_bind (Z := RF c S W σ H Q) E q (fun j z => z) (fun z => z) fun x v H1 e1 r1 E1 q1 => ?_
    refine rdT_bind (Z := RF c S W σ H Q) E1 q1 (fun j z => RX.ext e1 z) (fun z => z) fun y u H2 e2 r2 E2 q2 => ?_
    cases x with
    | int i =>
      cases y with
      | int j =>
        cases two r1
        cases two r2
        exact ⟨i, j, rfl, rfl, rg_cases (e1.trans e2) E2.nS q2⟩
      | _ => exact q2.elim
    | _ => exact q2.elim
/-! ### sorted -/
theorem ins_perm (n : Int) : ∀ l : List Int, (insI n l).Perm (n :: l)
  | [] => .refl _
  | m :: r => by
    unfold insI
    split
    · exact .refl _
    · exact ((ins_perm n r).cons m).trans (.swap n m r)
theorem sort_perm : ∀ l : List Int, (sortI l).Perm l
  | [] => .refl _
  | n :: r => (ins_perm n (sortI r)).trans ((sort_perm r).cons n)
theorem ins_sorted (n : Int) : ∀ l : List Int, l.Pairwise (· ≤ ·) → (insI n l).Pairwise (· ≤ ·)
  | [], _ => List.pairwise_singleton _ _
  | m :: r, h => by
    obtain ⟨h1, h2⟩ := List.pairwise_cons.mp h
    unfold insI
    split
    · rename_i hn
      refine List.pairwise_cons.mpr ⟨fun y hy => ?_, h⟩
      rcases List.mem_cons.mp hy with rfl | hy
      · exact hn
      · exact Int.le_trans hn (h1 y hy)
    · rename_i hn
      refine List.pairwise_cons.mpr ⟨fun y hy => ?_, ins_sorted n r h2⟩
      rcases List.mem_cons.mp ((ins_perm n r).mem_iff.mp hy) with rfl | hy
      · omega
      · exact h1 y hy
theorem sort_sorted : ∀ l : List Int, (sortI l).Pairwise (· ≤ ·)
  | [] => .nil
  | n :: r => ins_sorted n _ (sort_sorted r)
theorem sorted_eq : ∀ {xs ys : List Int}, xs.Perm ys → xs.Pairwise (· ≤ ·) → ys.Pairwise (· ≤ ·) → xs = ys
  | [], ys, h, _, _ => (List.Perm.nil_eq h)
  | x :: xs, [], h, _, _ => (List.Perm.eq_nil h)
  | x :: xs, y :: ys, h, h1, h2 => by
    obtain ⟨a1, a2⟩ := List.pairwise_cons.mp h1
    obtain ⟨b1, b2⟩ := List.pairwise_cons.mp h2
    have e : x = y := by
      have hx : x ∈ y :: ys := h.mem_iff.mp List.mem_cons_self
      have hy : y ∈ x :: xs := h.mem_iff.mpr List.mem_cons_self
      rcases List.mem_cons.mp hx with e | hx
      · exact e
      · rcases List.mem_cons.mp hy with e | hy
        · exact e.symm
        · exact Int.le_antisymm (a1 y hy) (b1 x hx)
    subst e
    rw [sorted_eq (List.Perm.cons_inv h) a2 b2]
theorem cr_sorted' : ∀ X, Good c N sc k X → CallR X (.builtin "sorted") (rSortedI c.K) := fun X g => g.hK ▸ cr_sortedI
theorem co_sorted : COps c (rSortedI c.K) fSorted := fun S W σ H vs ds Q nS r h => by
  unfold fSorted at h
  split at h
  · split at h
    · rename_i ns z
      obtain ⟨v, rfl, a, ws, rfl, q, ra⟩ := r.one
      have e := ints_ok z ra
      refine ⟨a, ns, rfl, .inl (.inl (by rw [← e]; exact q)), fun ns' p hp hs hn => ?_⟩
      have e2 : ns' = sortI ns := sorted_eq (hp.trans (sort_perm ns).symm) hs (sort_sorted ns)
      subst e2
      exact rp_newL (W := W) (σ := σ) nS h hn (rp_ints _)
    · exact h.elim
  · exact h.elim
/-! ### xs[e] = v -/
theorem ixN_place (n : Nat) (i : Int) : ixN n i = place n i := rfl
theorem ss_put {i : Nat} {x : Str} {px : Pos} {v : Expr} {ix : Expr} {fv fe : DE} (hv : SE c N sc k v fv) (he : ST c N sc k ix fe) (hN : N[i]? = some x := by rfl) (hvs : Vis sc x := by first | exact Or.inl rfl | exact Or.inr (Or.inl rfl) | exact Or.inr (Or.inr rfl))
    (hd : (x == ("__debug__" : Str)) = false := by decide) (hcd : (x == ("__classdict__" : Str)) = false := by decide)
    (hs : ∀ env : PySem.Env, env.scope = sc → swapsWithSole [.Subscript (.Name x px) ix pos'] v pos.line env = pure false := by intro _ _; rfl) (hw : ∀ env : PySem.Env, env.scope = sc → swappedStores [.Subscript (.Name x px) ix pos'] v env = pure none := by intro _ _; rfl)
    (h1 : ∀ env : PySem.Env, (assignEach [.Subscript (.Name x px) ix pos'] env).map (·.2) = [assign (.Subscript (.Name x px) ix pos') env] := by intro _; rfl)
    (ha : ∀ (env : PySem.Env) (w : Value), assign (.Subscript (.Name x px) ix pos') env w = (do
      let ov ← holding [w] (eval (.Name x px) env)
      let iv ← holding [w, ov] (eval ix env)
      standAt pos'
      holding [w, ov, iv] (setItem ov iv w)
      release [w, ov, iv] []) := by intro _ _; rfl) : SS c N sc k (.Assign [.Subscript (.Name x px) ix pos'] v pos) (sPut i fe fv) := fun X W gd tp tk =>
  PS_mono (ps_asg (hv X W gd tk) (pg_sub (pe_var (i := i) (by rw [gd.hN]; exact hN) (by rw [gd.hsc]; exact hvs) hd hcd) (he X W gd tk) set_list (ha _)) (hs _ gd.hsc) (hw _ gd.hsc) (h1 _)) fun D σ H ⟨A, H₀, S, G, ρ, E, q⟩ => by
    refine rdE_stm E q fun d v H1 _ e r E1 q1 => ?_
    split at q1
    · rename_i xs z
      obtain ⟨p, g1, g2, g3, vs, g4, ra⟩ := E1.own z
      refine ⟨.ref p, g1, ?_⟩
      refine rdT_stm E1 q1 fun d2 u H2 _ e2 r2 E2 q2 => ?_
      cases d2 with
      | int n =>
        have q2 : RO c A H₀ W G (match place xs.length n with
          | some j => .nx (ρ.set i (some (.own (.lst (xs.set j d)))))
          | none => .stuck) D := q2
        split at q2
        · rename_i j hj
          cases two r2
          have h5 := ext_lst e2.n g4
          refine ⟨p, vs, n, j, rfl, rfl, h5, by rw [ixN_place, ra.length]; exact hj, q2 σ _ S (E2.wr z g1 ⟨vs.set j v, upd_same, ?_⟩)⟩
          exact RpAll.set ((r.ext e2.n).wr g2 h5 trivial) j ((ra.ext e2.n).wr g2 h5 trivial)
        · exact q2.elim
      | _ => exact q2.elim
    · exact q1.elim
end
end NB
end

section
set_option Elab.async false
set_option linter.all false
set_option maxRecDepth 100000
/-! NBAsgP: x, y = a, b where a name is seen by a block: through a tuple. -/
namespace NB
open PySem PySem.Spec PyProof.Rows L2
def endT (En : Ends) : Ends := { nx := fun σ H => ∀ (p : Addr) (vs : List V), H p = none → En.nx σ (upd H p (.tup vs)), rt := En.rt, bk := En.bk, ct := En.ct }
section
variable {c : Cfg} {N : List Str} {sc : Sco} {k : Nat} {a b d : Expr} {pos : Pos}
theorem ro_endT {A : Addr → Prop} {H₀ : Hp} {W : WX} {G : List (V × D)} {En : Ends} {o : Out} (h : RO c A H₀ W G o En) : RO c A H₀ W G o (endT En) := by
  cases o with
  | nx ρ => exact fun σ' H' S' E p vs hp => h σ' _ S' (E.ext (Ext.new hp))
  | _ => exact h
theorem ss_asgPar2 {i j : Nat} {o1 o2 : Bool} {f1 f2 : DE} {x y : Str} {px py pt pt2 : Pos} {kt k2 : Nat} (ha : SPar c N sc k [a, b] [(i, o1, f1), (j, o2, f2)]) (hi : N[i]? = some x := by rfl) (hj : N[j]? = some y := by rfl)
    (hx : Loc sc x := by first | exact Or.inl rfl | exact Or.inr rfl) (hy : Loc sc y := by first | exact Or.inl rfl | exact Or.inr rfl)
    (hw : ∀ env : PySem.Env, env.scope = sc → swappedStores [.Tuple [.Name x px, .Name y py] kt pt] (.Tuple [a, b] k2 pt2) env = pure none := by first | (intro _ _; rfl) | (rintro ⟨_, _⟩ h; cases h; rfl))
    (hs : ∀ env : PySem.Env, env.scope = sc → swapsWithSole [.Tuple [.Name x px, .Name y py] kt pt] (.Tuple [a, b] k2 pt2) pos.line env = pure false := by intro _ _; rfl)
    (h1 : ∀ env : PySem.Env, (assignEach [.Tuple [.Name x px, .Name y py] kt pt] env).map (·.2) = [assign (.Tuple [.Name x px, .Name y py] kt pt) env] := by intro _; rfl)
    (g1 : ∀ env : PySem.Env, (assignEach [.Name x px, .Name y py] env).map (·.2) = assign (.Name x px) env :: (assignEach [.Name y py] env).map (·.2) := by intro _; rfl) (g2 : ∀ env : PySem.Env, (assignEach [.Name y py] env).map (·.2) = assign (.Name y py) env :: (assignEach [] env).map (·.2) := by intro _; rfl)
    (hn : ∀ env : PySem.Env, (assignEach [.Name x px, .Name y py] env).length = 2 := by intro _; rfl) (hst : ∀ env : PySem.Env, (assignEach [.Name x px, .Name y py] env).findIdx? (·.1) = none := by intro _; rfl) :
    SS c N sc k (.Assign [.Tuple [.Name x px, .Name y py] kt pt] (.Tuple [a, b] k2 pt2) pos) (sPar [(i, o1, f1), (j, o2, f2)]) := fun X W gd tp tk => by
  refine ⟨fun pins s σ H D I h => ?_⟩
  obtain ⟨A, H₀, S, G, ρ, E, q⟩ := h
  have nd : X.N.Nodup := by rw [gd.hN]; exact gd.nd
  have base := ps_asg (X := X) (pos := pos) (pe_tup (ha X W gd tk σ (endT D))) (pg_tup gd.calm (pgs_cons (pg_name nd (i := i) (by rw [gd.hN]; exact hi) (by rw [gd.hsc]; exact hx) (.inl (tp.fn x))) (pgs_cons (pg_name nd (i := j) (by rw [gd.hN]; exact hj) (by rw [gd.hsc]; exact hy) (.inl (tp.fn y))) pgs_nil (g2 _)) (g1 _)) (hn _) (hst _)) (hs _ gd.hsc) (hw _ gd.hsc) (h1 _)
  refine base.run pins s σ H D I ?_
  refine ⟨A, H₀, S, G, ρ, σ, ρ, E, E, ro_endT q, fun vs H' hl z => ⟨?_, fun p hp => ⟨p, vs, rfl, .inl (.inl upd_same), hl, ?_⟩⟩⟩
  · rw [hl, sizeLine_eq]; show 2 ≤ _; decide
  · match vs, hl with
    | [v, w], _ => exact ⟨v, [w], rfl, w, [], rfl, rfl, z p _ hp⟩
theorem ss_asgPar3 {i j l : Nat} {o1 o2 o3 : Bool} {f1 f2 f3 : DE} {x y z : Str} {px py pz pt pt2 : Pos} {kt k2 : Nat} (ha : SPar c N sc k [a, b, d] [(i, o1, f1), (j, o2, f2), (l, o3, f3)]) (hi : N[i]? = some x := by rfl) (hj : N[j]? = some y := by rfl) (hl : N[l]? = some z := by rfl)
    (hx : Loc sc x := by first | exact Or.inl rfl | exact Or.inr rfl) (hy : Loc sc y := by first | exact Or.inl rfl | exact Or.inr rfl) (hz : Loc sc z := by first | exact Or.inl rfl | exact Or.inr rfl)
    (hw : ∀ env : PySem.Env, env.scope = sc → swappedStores [.Tuple [.Name x px, .Name y py, .Name z pz] kt pt] (.Tuple [a, b, d] k2 pt2) env = pure none := by first | (intro _ _; rfl) | (rintro ⟨_, _⟩ h; cases h; rfl))
    (hs : ∀ env : PySem.Env, env.scope = sc → swapsWithSole [.Tuple [.Name x px, .Name y py, .Name z pz] kt pt] (.Tuple [a, b, d] k2 pt2) pos.line env = pure false := by intro _ _; rfl)
    (h1 : ∀ env : PySem.Env, (assignEach [.Tuple [.Name x px, .Name y py, .Name z pz] kt pt] env).map (·.2) = [assign (.Tuple [.Name x px, .Name y py, .Name z pz] kt pt) env] := by intro _; rfl)
    (g1 : ∀ env : PySem.Env, (assignEach [.Name x px, .Name y py, .Name z pz] env).map (·.2) = assign (.Name x px) env :: (assignEach [.Name y py, .Name z pz] env).map (·.2) := by intro _; rfl) (g2 : ∀ env : PySem.Env, (assignEach [.Name y py, .Name z pz] env).map (·.2) = assign (.Name y py) env :: (assignEach [.Name z pz] env).map (·.2) := by intro _; rfl)
    (g3 : ∀ env : PySem.Env, (assignEach [.Name z pz] env).map (·.2) = assign (.Name z pz) env :: (assignEach [] env).map (·.2) := by intro _; rfl)
    (hn : ∀ env : PySem.Env, (assignEach [.Name x px, .Name y py, .Name z pz] env).length = 3 := by intro _; rfl) (hst : ∀ env : PySem.Env, (assignEach [.Name x px, .Name y py, .Name z pz] env).findIdx? (·.1) = none := by intro _; rfl) :
    SS c N sc k (.Assign [.Tuple [.Name x px, .Name y py, .Name z pz] kt pt] (.Tuple [a, b, d] k2 pt2) pos) (sPar [(i, o1, f1), (j, o2, f2), (l, o3, f3)]) := fun X W gd tp tk => by
  refine ⟨fun pins s σ H D I h => ?_⟩
  obtain ⟨A, H₀, S, G, ρ, E, q⟩ := h
  have nd : X.N.Nodup := by rw [gd.hN]; exact gd.nd
  have base := ps_asg (X := X) (pos := pos) (pe_tup (ha X W gd tk σ (endT D))) (pg_tup gd.calm (pgs_cons (pg_name nd (i := i) (by rw [gd.hN]; exact hi) (by rw [gd.hsc]; exact hx) (.inl (tp.fn x))) (pgs_cons (pg_name nd (i := j) (by rw [gd.hN]; exact hj) (by rw [gd.hsc]; exact hy) (.inl (tp.fn y))) (pgs_cons (pg_name nd (i := l) (by rw [gd.hN]; exact hl) (by rw [gd.hsc]; exact hz) (.inl (tp.fn z))) pgs_nil (g3 _)) (g2 _)) (g1 _)) (hn _) (hst _)) (hs _ gd.hsc) (hw _ gd.hsc) (h1 _)
  refine base.run pins s σ H D I ?_
  refine ⟨A, H₀, S, G, ρ, σ, ρ, E, E, ro_endT q, fun vs H' hl z => ⟨?_, fun p hp => ⟨p, vs, rfl, .inl (.inl upd_same), hl, ?_⟩⟩⟩
  · rw [hl, sizeLine_eq]; show 3 ≤ _; decide
  · match vs, hl with
    | [v, w, u], _ => exact ⟨v, [w, u], rfl, w, [u], rfl, u, [], rfl, rfl, z p _ hp⟩
end
end NB
end

section
set_option Elab.async false
set_option linter.all false
set_option maxRecDepth 100000
/-! NBSlS: xs[a:c] = ys. -/
namespace NB
open PySem PySem.Spec PyProof.Rows L2
section
variable {X : Cx} {o e lo hi : Expr} {to te : TE} {tl th : TO} {pos p2 : Pos}
def gSubSl (to : TE) (tl th : TO) : TG := fun v σ H Q => to σ H fun ov H1 => tl σ H1 fun l H2 => th σ H2 fun h H3 =>
  ∃ (p b : Addr) (xs ys : List V) (a c : Int), ov = .ref p ∧ v = .ref b ∧ l = some a ∧ h = some c ∧ H3 p = some (.lst xs) ∧ H3 b = some (.lst ys) ∧ p ≠ b ∧ 0 ≤ a ∧ a ≤ c ∧ c ≤ xs.length ∧ xs.length + ys.length ≤ sizeLine ∧ Q σ (upd H3 p (.lst (xs.take a.toNat ++ ys ++ xs.drop c.toNat)))
theorem pg_subSl (ho : PE X o to) (hl : PO X (some lo) tl) (hh : PO X (some hi) th)
    (ha : ∀ v, assign (.Subscript o (.Slice (some lo) (some hi) none p2) pos) X.env v = (do
      let ov ← holding [v] (eval o X.env)
      let iv ← holding [v, ov] (eval (.Slice (some lo) (some hi) none p2) X.env)
      standAt pos
      holding [v, ov, iv] (setItem ov iv v)
      release [iv, v, ov] [])) : PG X (.Subscript o (.Slice (some lo) (some hi) none p2) pos) (gSubSl to tl th) := by
  refine ⟨fun pins s σ H v u Q I r h => ?_⟩
  rw [ha]
  refine wpAny_bind (wpAny_holding (thn (ho.run pins s σ H _ I h) fun ov s1 ⟨x, H1, I1, r1, q1⟩ => ?_))
  refine wpAny_bind (wpAny_holding (wpAny_Slice (thn (hl.run pins s1 σ H1 _ I1 q1) fun vl s2 ⟨l, H2, I2, pl, q2⟩ => thn (hh.run pins s2 σ H2 _ I2 q2) fun vu s3 ⟨u', H3, I3, pu, q3⟩ => ?_)))
  rw [evalPart_none]
  refine wpAny_pure ?_
  have I4 : Inv X pins σ H3 { s3 with heap := s3.heap.push { cls := .type "slice", data := .fields #[vl, vu, .none] } } := I3.kept (t' := s3.toks) fun b ob q => Heap.get?_push_of_some _ q
  obtain ⟨p, b, xs, ys, a, c, rfl, rfl, rfl, rfl, g1, g2, g3, g4, g5, g6, g7, q4⟩ := q3
  cases r1
  cases r
  cases pl with
  | int _ ta =>
    cases pu with
    | int _ tc =>
      refine wpAny_bind (wpAny_standAt (wpAny_bind (wpAny_holding (set_slice I4 g1 g2 g3 (Heap.IsSliceOf.new ..) ⟨ta, rfl⟩ ⟨tc, rfl⟩ g4 g5 g6 g7 fun s' I5 => ?_))))
      exact wpAny_release ⟨σ, _, I5, q4⟩
end
section
variable {c : Cfg} {N : List Str} {sc : Sco} {k : Nat} {a b e : Expr} {fa fb fe : DE} {pos pos' p2 : Pos}
theorem ss_putSl {i : Nat} {x : Str} {px : Pos} (he : SF c N sc k e fe) (ha : ST c N sc k a fa) (hb : ST c N sc k b fb) (hN : N[i]? = some x := by rfl) (hvs : Vis sc x := by first | exact Or.inl rfl | exact Or.inr (Or.inl rfl) | exact Or.inr (Or.inr rfl))
    (hd : (x == ("__debug__" : Str)) = false := by decide) (hcd : (x == ("__classdict__" : Str)) = false := by decide)
    (hs : ∀ env : PySem.Env, env.scope = sc → swapsWithSole [.Subscript (.Name x px) (.Slice (some a) (some b) none p2) pos'] e pos.line env = pure false := by intro _ _; rfl) (hw : ∀ env : PySem.Env, env.scope = sc → swappedStores [.Subscript (.Name x px) (.Slice (some a) (some b) none p2) pos'] e env = pure none := by intro _ _; rfl)
    (h1 : ∀ env : PySem.Env, (assignEach [.Subscript (.Name x px) (.Slice (some a) (some b) none p2) pos'] env).map (·.2) = [assign (.Subscript (.Name x px) (.Slice (some a) (some b) none p2) pos') env] := by intro _; rfl)
    (hg : ∀ (env : PySem.Env) (w : Value), assign (.Subscript (.Name x px) (.Slice (some a) (some b) none p2) pos') env w = (do
      let ov ← holding [w] (eval (.Name x px) env)
      let iv ← holding [w, ov] (eval (.Slice (some a) (some b) none p2) env)
      standAt pos'
      holding [w, ov, iv] (setItem ov iv w)
      release [iv, w, ov] []) := by intro _ _; rfl) : SS c N sc k (.Assign [.Subscript (.Name x px) (.Slice (some a) (some b) none p2) pos'] e pos) (sPutSl i fa fb fe) := fun X W gd tp tk =>
  PS_mono (ps_asg (he X W gd tk) (pg_subSl (pe_var (i := i) (by rw [gd.hN]; exact hN) (by rw [gd.hsc]; exact hvs) hd hcd) (po_some (ha X W gd tk)) (po_some (hb X W gd tk)) (hg _)) (hs _ gd.hsc) (hw _ gd.hsc) (h1 _)) fun D σ H ⟨A, H₀, S, G, ρ, E, q⟩ => by
    refine rdF_stm E q fun d y H1 ny e r q1 => ?_
    cases d with
    | lst ys =>
      obtain ⟨us, gy, ry⟩ := r
      have E1 := E.ext e
      have q1 : RO c A H₀ W G (match ρ[i]? with
        | some (some (.own (.lst xs))) => ofR ρ (fa ρ) fun n => match n with | .int a => ofR ρ (fb ρ) (spliceD i xs ys ρ a) | _ => .stuck
        | _ => .stuck) D := q1
      split at q1
      · rename_i xs z
        obtain ⟨p, g1, g2, g3, vs, g4, ra⟩ := E1.own z
        have hpy : p ≠ y := fun zz => by
          obtain ⟨p', k1, k2, k3, ws, k4, _⟩ := E.own z
          rw [k1] at g1
          cases g1
          rw [zz, ny] at k4
          cases k4
        refine ⟨.ref p, g1, ?_⟩
        refine rdT_stm E1 q1 fun d2 u H2 _ e2 r2 E2 q2 => ?_
        cases d2 with
        | int n =>
          cases two r2
          refine ⟨n, rfl, ?_⟩
          have q2 : RO c A H₀ W G (ofR ρ (fb ρ) (spliceD i xs ys ρ n)) D := q2
          refine rdT_stm E2 q2 fun d3 u3 H3 _ e3 r3 E3 q3 => ?_
          cases d3 with
          | int m =>
            cases two r3
            refine ⟨m, rfl, ?_⟩
            have q3 : RO c A H₀ W G (if 0 ≤ n ∧ n ≤ m ∧ m ≤ xs.length ∧ xs.length + ys.length < line then .nx (ρ.set i (some (.own (.lst (xs.take n.toNat ++ ys ++ xs.drop m.toNat))))) else .stuck) D := q3
            split at q3
            · rename_i hc
              have h5 := ext_lst e3.n (ext_lst e2.n g4)
              have h6 := ext_lst e3.n (ext_lst e2.n gy)
              have ry2 := (RpAll.weak (fun b hb => Or.inl hb) ry : RpAll c.K H1 S us ys)
              have lx := ra.length
              have ly := ry.length
              refine ⟨p, y, vs, us, n, m, rfl, rfl, rfl, rfl, h5, h6, hpy, hc.1, hc.2.1, by rw [lx]; exact hc.2.2.1, by rw [lx, ly]; exact Nat.le_of_lt hc.2.2.2, q3 σ _ S (E3.wr z g1 ⟨_, upd_same, ?_⟩)⟩
              have rA := ((ra.ext e2.n).ext e3.n).wr (o := .lst (vs.take n.toNat ++ us ++ vs.drop m.toNat)) g2 h5 trivial
              have rB := ((ry2.ext e2.n).ext e3.n).wr (o := .lst (vs.take n.toNat ++ us ++ vs.drop m.toNat)) g2 h5 trivial
              exact ((rA.take _).append rB).append (rA.drop _)
            · exact q3.elim
          | _ => exact q3.elim
        | _ => exact q2.elim
      · exact q1.elim
    | _ => exact q1.elim
end
end NB
end

section
set_option Elab.async false
set_option linter.all false
set_option maxRecDepth 100000
/-! NBTxt3: a text within a text, lstrip, list(text), xs + ys as a new list, a comprehension over an own list. -/
namespace NB
open PySem PySem.Spec PyProof.Rows L2
theorem infix_none (x : List Nat) (hx : x ≠ []) : ∀ (y : List Nat), infixAt x y = none → ∀ m, ((y.drop m).take x.length == x) = false
  | [], _, m => by
    cases x with
    | nil => exact absurd rfl hx
    | cons a x => rw [List.drop_nil]; rfl
  | c :: r, h, m => by
    unfold infixAt at h
    split at h
    · cases h
    · rename_i hp
      cases q : infixAt x r with
      | some k => rw [q] at h; cases h
      | none =>
        cases m with
        | zero =>
          rw [List.drop_zero]
          cases z : ((c :: r).take x.length == x) with
          | false => rfl
          | true => exact absurd (List.isPrefixOf_iff_prefix.mpr (List.prefix_iff_eq_take.mpr (eq_of_beq z).symm)) hp
        | succ m => exact infix_none x hx r q m
theorem in_tx {x y : List Nat} (hx : x ≠ []) : (!(Builtin.Str.occurrences (tx y) (tx x) 0 (tx y).length 1).isEmpty) = (infixAt x y).isSome := by
  cases h : infixAt x y with
  | some k => rw [occ_index hx h]; rfl
  | none =>
    have : ¬ (!(Builtin.Str.occurrences (tx y) (tx x) 0 (tx y).length 1).isEmpty) = true := fun z => by
      obtain ⟨i, _, h2⟩ := (StrLaws.found_iff (tx y) (tx x)).mp z
      rw [StrLaws.subAt_eq, tx_len, tx_cps, tx_cps, infix_none x hx y h i] at h2
      cases h2
    simpa using this
theorem tw_drop (p : Nat → Bool) : ∀ y : List Nat, y.drop (y.takeWhile p).length = y.dropWhile p
  | [] => rfl
  | c :: y => by
    rw [List.takeWhile_cons, List.dropWhile_cons]
    cases p c with
    | true => exact tw_drop p y
    | false => rfl
theorem lstrip_tx (y z : List Nat) : Txt.lstripChars (tx y) (tx z) = tx (y.dropWhile fun c => z.contains c) := by
  have hg : (fun c => (tx z).cps.contains c) = fun c => z.contains c := by
    funext c
    show z.toArray.contains c = _
    rw [List.contains_toArray]
  have hlo : stripLo (tx z).cps.contains true (tx y) = (y.takeWhile fun c => z.contains c).length := by
    show ((tx y).cps.toList.takeWhile _).length = _
    rw [tx_cps]
    exact congrArg (fun p => (y.takeWhile p).length) hg
  have hhi : stripHi (tx z).cps.contains false (tx y) (stripLo (tx z).cps.contains true (tx y)) = y.length := by
    show (tx y).length = _
    exact tx_len y
  unfold Txt.lstripChars Txt.stripBy stripSame stripped
  rw [hhi, hlo]
  split
  · rename_i h
    have h1 : (y.takeWhile fun c => z.contains c).length = 0 := by
      have := (Bool.and_eq_true _ _).mp h
      exact eq_of_beq this.1
    rw [← tw_drop, h1]
    rfl
  · show Str.mk ((tx y).cps.extract _ _) = _
    have he : (tx y).cps.extract (y.takeWhile fun c => z.contains c).length y.length = (y.dropWhile fun c => z.contains c).toArray := by
      apply Array.ext'
      rw [Array.toList_extract, tx_cps, ← tw_drop]
      show List.take _ _ = _
      rw [List.take_of_length_le (by rw [List.length_drop]; omega)]
    rw [he]
theorem vals_at : ∀ (xs : List V) (us : List Value), us.length = xs.length → (∀ (j : Nat) (u : Value), us[j]? = some u → ∃ x, xs[j]? = some x ∧ RelV x u) → Vals xs us
  | [], [], _, _ => .nil
  | [], _ :: _, h, _ => by simp at h
  | _ :: _, [], h, _ => by simp at h
  | x :: xs, u :: us, h, hk => by
    obtain ⟨y, e1, r⟩ := hk 0 u rfl
    cases e1
    exact .cons r (vals_at xs us (Nat.succ.inj h) fun j v hj => hk (j + 1) v hj)
section
variable {c : Cfg} {N : List Str} {sc : Sco} {k : Nat} {a b e : Expr} {f g : DE} {pos apos : Pos}
theorem or_inX : ∀ X, Good c N sc k X → OpR X (compareOp .In) (fun x y H Q => ∃ i j, x = .str i ∧ y = .str j ∧ Q (.bl (!(Builtin.Str.occurrences j i 0 j.length 1).isEmpty)) H) := fun X g => op_in_str
theorem os_inX : Ops c (fun x y H Q => ∃ i j, x = .str i ∧ y = .str j ∧ Q (.bl (!(Builtin.Str.occurrences j i 0 j.length 1).isEmpty)) H) dInX := fun S W σ H x y dx dy Q nS rx ry h => by
  unfold dInX at h
  split at h
  · refine ⟨_, _, twoS rx, twoS ry, ?_⟩
    rw [in_tx (List.cons_ne_nil _ _)]
    exact h _ H Ext.refl (.bl _)
  · exact h.elim
theorem cm_inX : CmpR c .In dInX := ⟨⟨_, fun _ _ _ => or_inX, os_inX⟩, fun x y d h => by
  unfold dInX at h
  split at h <;> cases h
  exact ⟨_, rfl⟩⟩
/-- o.lstrip(signs) -/
theorem se_lstrip (ha : ST c N sc k a f) (hb : ST c N sc k b g) (hs : ∀ env : PySem.Env, starEach [b] env = [(false, eval b env)] := by intro _; rfl)
    (hbase : ∀ env : PySem.Env, attributeBase a "lstrip" env (eval a env) = eval a env := by intro _; rfl) (hline : (apos.endLine == pos.line) = true := by rfl) :
    SE c N sc k (.Call (.Attribute a "lstrip" apos) [b] [] pos) (eM1 isTx dLstrip f g) := fun X W gd tk =>
  (pe_m1 F.slot_str_lstrip F.type_str_lstrip mt_lstripChars (ha X W gd tk) (hb X W gd tk) (hs _) (hbase _) hline).mono' fun σ H Q ⟨A, H₀, S, G, ρ, E, q⟩ => by
    refine rdT_bind (Z := RD c S W σ H Q) E q (fun j z => z) (fun z => z) fun x v H1 e1 r1 E1 q1 => ?_
    cases x with
    | str y =>
      have q1 : RD c S W σ H Q ((g ρ).bind fun x => dLstrip (.str y) x) := q1
      cases twoS r1
      refine ⟨⟨_, rfl⟩, ?_⟩
      refine rdT_bind (Z := RD c S W σ H Q) E1 q1 (fun j z => RX.ext e1 z) (fun z => z) fun x u H2 e2 r2 E2 q2 => ?_
      cases x with
      | str z =>
        cases twoS r2
        have q2 : RD c S W σ H Q (if y.length < line then .ok (.str (y.dropWhile fun c => z.contains c)) else .stuck) := q2
        split at q2
        · rename_i hl
          refine ⟨_, _, rfl, rfl, ?_, ?_⟩
          · rw [tx_len]
            exact Nat.le_of_lt hl
          · rw [lstrip_tx]
            exact q2 _ H2 (e1.trans e2) (.str _)
        · exact q2.elim
      | _ => exact q2.elim
    | _ => exact q1.elim
/-- list(text) -/
def rListS : List V → Hp → VK → Prop := fun xs H Q => ∃ x : Str, xs = [.str x] ∧ x.length ≤ sizeLine ∧ ∀ l, H l = none → Q (.ref l) (upd H l (.lst (x.cps.toList.map fun c => .str ⟨#[c]⟩)))
theorem cr_listS : ∀ X, Good c N sc k X → CallR X (.type "list") rListS := fun X gd pins s σ H xs us Q I r h => by
  obtain ⟨x, rfl, hl, q⟩ := h
  cases r with
  | cons r1 r2 =>
    cases r2
    obtain ⟨t, rfl⟩ := r1
    refine call_list_str (I.ok.hd gd.calm) x t (fun h' tk acc' c' hk hS hi => ?_) hl
    have hv : Vals (x.cps.toList.map fun c => V.str ⟨#[c]⟩) acc'.toList := by
      refine vals_at _ _ (by rw [List.length_map, Array.length_toList, Array.length_toList]; exact hi.1) fun j u hj => ?_
      obtain ⟨cc, t, hc, rfl⟩ := hi.2 j u (by rw [← Array.getElem?_toList]; exact hj)
      exact ⟨.str ⟨#[cc]⟩, by rw [List.getElem?_map, Array.getElem?_toList, hc]; rfl, ⟨t, rfl⟩⟩
    refine ⟨.ref _, upd H s.heap.objs.size (.lst (x.cps.toList.map fun c => .str ⟨#[c]⟩)), ?_, rfl, q _ (I.hok.fresh (Nat.le_refl _))⟩
    refine I.laid (t' := tk) (fun b o e => hk b o e) (Nat.le_refl _) ?_
    exact ⟨by rw [List.length_map, Array.length_toList]; exact hl, acc'.toList, c', hv, by rw [Array.toArray_toList]; exact hS⟩
theorem rp_signs {K : PySem.W.Frag} {H : Hp} {S : Addr → Prop} : ∀ y : List Nat, RpAll K H S (y.map fun c => V.str ⟨#[c]⟩) (y.map fun c => D.str [c])
  | [] => .nil
  | c :: y => .cons (.str [c]) (rp_signs y)
theorem co_listS : COps c rListS fListS := fun S W σ H vs ds Q nS r h => by
  unfold fListS at h
  split at h
  · rename_i y
    obtain ⟨v, rfl, r1⟩ := r.one
    split at h
    · rename_i hl
      cases twoS r1
      refine ⟨_, rfl, by rw [tx_len]; exact Nat.le_of_lt hl, fun l hn => ?_⟩
      rw [tx_cps]
      exact rp_newL (W := W) (σ := σ) nS h hn (rp_signs y)
    · exact h.elim
  · exact h.elim
/-- xs + ys, a new list -/
theorem sf_catL (ha : ST c N sc k a f) (hb : ST c N sc k b g) : SF c N sc k (.BinOp a .Add b pos) (e2 dCatL f g) := fun X W gd tk =>
  (pe_op op_cat (ha X W gd tk) (hb X W gd tk)).mono' fun σ H Q ⟨A, H₀, S, G, ρ, E, q⟩ => by
    refine rdT_bind (Z := RF c S W σ H Q) E q (fun j z => z) (fun z => z) fun d v H1 e r1 E1 h1 => ?_
    refine rdT_bind (Z := RF c S W σ H Q) E1 h1 (fun j z => RX.ext e z) (fun z => z) fun d2 v2 H2 e2 r2 E2 h2 => ?_
    have r1 := r1.ext e2.n
    cases d with
    | lst xs =>
      cases d2 with
      | lst ys =>
        have h2 : RF c S W σ H Q (if xs.length + ys.length < line then .ok (.lst (xs ++ ys)) else .stuck) := h2
        split at h2
        · rename_i hl
          obtain ⟨l, vs, rfl, hv, ra⟩ := r1
          obtain ⟨m, ws, rfl, hw, rb⟩ := r2
          refine ⟨l, m, vs, ws, rfl, rfl, hv, hw, by rw [ra.length, rb.length]; exact Nat.le_of_lt hl, fun p hp => ?_⟩
          exact h2 p _ ((e.trans e2).f p hp) ((e.trans e2).trans (Ext.new hp)) ⟨_, upd_same, (((ra.append rb).more hp).ext (Ext.new (T := c.T) hp).n)⟩
        · exact h2.elim
      | _ => exact h2.elim
    | _ => exact h2.elim
theorem flat_any {K : PySem.W.Frag} {H : Hp} {S S' : Addr → Prop} : ∀ {vs : List V} {ds : List D}, ds.all flatD = true → RpAll K H S vs ds → RpAll K H S' vs ds
  | _, _, _, .nil => .nil
  | _, _, h, .cons r q => by
    have h2 := (Bool.and_eq_true _ _).mp (by rw [← List.all_cons]; exact h)
    refine .cons ?_ (flat_any h2.2 q)
    cases r with
    | non => exact .non
    | bl b => exact .bl b
    | int i => exact .int i
    | str x => exact .str x
    | _ => exact absurd h2.1 (by intro z; cases z)
theorem rf_thaw {W : WX} {σ : L2.St} {H : Hp} {S S' : Addr → Prop} {Q : VK} {r : Res D} (h : RF c S W σ H Q (thawD r)) : RF c S' W σ H Q r := by
  cases r with
  | exc j => exact h
  | stuck => exact h
  | ok d =>
    cases d with
    | lst ds =>
      have h : RF c S W σ H Q (if ds.all flatD then .ok (.lst ds) else .stuck) := h
      split at h
      · rename_i hf
        rintro a H' hn e ⟨vs, h1, h2⟩
        exact h a H' hn e ⟨vs, h1, flat_any hf h2⟩
      · exact h.elim
    | _ => exact h.elim
theorem rdF_thaw {W : WX} {σ : L2.St} {H : Hp} {Q : VK} {j : Nat} (q : rdF c W (eThaw j f) σ H Q) : rdF c W f σ H Q := by
  obtain ⟨A, H₀, S, G, ρ, E, q⟩ := q
  unfold eThaw at q
  split at q
  · rename_i d z
    obtain ⟨S', E'⟩ := E.freeze z
    exact ⟨A, H₀, S', G, _, E', rf_thaw q⟩
  · exact q.elim
theorem sf_thaw {j : Nat} (h : SF c N sc k e f) : SF c N sc k e (eThaw j f) := fun X W gd tk => (h X W gd tk).mono' fun σ H Q q => rdF_thaw q
end
section
variable {c : Cfg} {N : List Str} {sc : Sco} {k : Nat} {ex tg it : Expr} {f : DE} {t : DT} {fi : DI} {dg : DG} {pos pos' : Pos}
theorem ss_setLcT {i j : Nat} {x : Str} {ifs : List Expr} {scope : Scope} {own : List (Str × Nat)} {vs : List Nat} {py : Pos} (hi : SI c N sc k tg it fi) (hg : SG c N (rsc scope sc) k (fun x => scope.names.lookup x == some .cell) vs tg dg) (ht : STs c N (rsc scope sc) k ifs t) (he : SE c N (rsc scope sc) k ex f)
    (hk : sc.s.kind = .function := by rfl) (hl : (py.line == pos'.line) = true := by rfl) (hn : (scope.names.any fun (n, k) => n == x && (k == .local || k == .cell)) = false := by decide +kernel)
    (hN : N[i]? = some x := by rfl) (hx : sc.names.lookup x = some .local := by rfl) (ok : blkC N sc scope own = true := by first | decide +kernel | (dsimp only; decide +kernel)) (hv : own.map (·.2) = vs := by rfl)
    (hs : ∀ (env : PySem.Env) x, foldedSetIterable it env x = pure x := by intro _ _; rfl) : SS c N sc k (.Assign [.Name x py] (.ListComp ex [⟨tg, it, ifs, 0⟩] scope pos') pos) (sSet i (eThaw j (eLc fi vs dg t f))) := fun X W gd tp tk => by
  subst hv
  have hsw := fun (env : PySem.Env) (h : env.scope = sc) => (sw_true (by rw [h]; exact hk) (by rw [h]; exact hx) hl hn : swapsWith (.ListComp ex [⟨tg, it, ifs, 0⟩] scope pos') (some (.Name x py)) pos.line env = pure true)
  refine PS_mono (ps_setLc (i := i) gd.calm (by rw [gd.hN]; exact gd.nd) (by rw [gd.hN]; exact hN) (by rw [gd.hsc]; exact hx) (hsw _ gd.hsc) (hi X W gd tk) (by rw [gd.hN, gd.hsc]; exact blkOk_by ok) (fun s H C cl fp => hg _ (good_blk gd s H C cl fp) fun x z => z) (fun s H C cl fp => ht _ _ (good_blk gd s H C cl fp) takesN0) (fun s H C cl fp => he _ _ (good_blk gd s H C cl fp) takesN0) (hs _)) fun D σ H ⟨A, H₀, S, G, ρ, E, q⟩ => ?_
  refine tLc_of (W := W) gd (rdF_thaw (j := j) ?_)
  refine rdF_stm E q fun d a H1 n e r q1 => ?_
  have q1 : RO c A H₀ W G (match gSet i d ρ with | .ok ρ' => .nx ρ' | _ => .stuck) D := q1
  unfold gSet at q1
  by_cases hl : i < ρ.length
  · rw [if_pos hl] at q1
    exact q1 _ H1 S ((E.ext e).set ((r.weak fun b z => .inl z).rp fun z => E.new n z))
  · rw [if_neg hl] at q1
    exact q1.elim
end
end NB
end

section
set_option Elab.async false
set_option linter.all false
set_option maxRecDepth 100000
namespace NB.R_k50
open PySem PySem.Spec PyProof.Rows L2 NB
def topS (i : Nat) : Stmt := PySem.Challenge.pw_numeralbook_k50_whole_growing.main.body.getD i (.Pass ⟨0, 0, 0, 0⟩)
abbrev s_numbers_is_count : Stmt := topS 6
theorem sc_numbers_is_count : FnScope ["thing", "low", "high"] ["thing", "low", "high"] (defScope s_numbers_is_count) := ⟨rfl, rfl, rfl, by decide +kernel, rfl, by decide +kernel, by decide +kernel⟩
abbrev s_numbers_need_number : Stmt := topS 7
theorem sc_numbers_need_number : FnScope ["thing", "low", "high"] ["thing", "low", "high"] (defScope s_numbers_need_number) := ⟨rfl, rfl, rfl, by decide +kernel, rfl, by decide +kernel, by decide +kernel⟩
abbrev s_growing_row_to : Stmt := topS 10
theorem sc_growing_row_to : FnScope ["number", "found", "one"] ["number"] (defScope s_growing_row_to) := ⟨rfl, rfl, rfl, by decide +kernel, rfl, by decide +kernel, by decide +kernel⟩
abbrev s_growing_numeral_of : Stmt := topS 11
theorem sc_growing_numeral_of : FnScope ["number", "found", "one"] ["number"] (defScope s_growing_numeral_of) := ⟨rfl, rfl, rfl, by decide +kernel, rfl, by decide +kernel, by decide +kernel⟩
abbrev s_growing_write : Stmt := topS 12
theorem sc_growing_write : FnScope ["number"] ["number"] (defScope s_growing_write) := ⟨rfl, rfl, rfl, by decide +kernel, rfl, by decide +kernel, by decide +kernel⟩
abbrev s_growing_worth_of : Stmt := topS 13
theorem sc_growing_worth_of : FnScope ["numeral", "found", "one", "other", "sign"] ["numeral"] (defScope s_growing_worth_of) := ⟨rfl, rfl, rfl, by decide +kernel, rfl, by decide +kernel, by decide +kernel⟩
abbrev s_growing_need_figures : Stmt := topS 14
theorem sc_growing_need_figures : FnScope ["numeral", "good", "sign"] ["numeral"] (defScope s_growing_need_figures) := ⟨rfl, rfl, rfl, by decide +kernel, rfl, by decide +kernel, by decide +kernel⟩
abbrev s_growing_worth : Stmt := topS 15
theorem sc_growing_worth : FnScope ["numeral"] ["numeral"] (defScope s_growing_worth) := ⟨rfl, rfl, rfl, by decide +kernel, rfl, by decide +kernel, by decide +kernel⟩
abbrev s_growing_read : Stmt := topS 16
theorem sc_growing_read : FnScope ["numeral"] ["numeral"] (defScope s_growing_read) := ⟨rfl, rfl, rfl, by decide +kernel, rfl, by decide +kernel, by decide +kernel⟩
abbrev s_growing_shaped : Stmt := topS 17
theorem sc_growing_shaped : FnScope ["numeral", "found", "at"] ["numeral"] (defScope s_growing_shaped) := ⟨rfl, rfl, rfl, by decide +kernel, rfl, by decide +kernel, by decide +kernel⟩
abbrev s_growing_steps_of : Stmt := topS 18
theorem sc_growing_steps_of : FnScope ["numeral", "found", "count", "at"] ["numeral"] (defScope s_growing_steps_of) := ⟨rfl, rfl, rfl, by decide +kernel, rfl, by decide +kernel, by decide +kernel⟩
abbrev s_growing_behind : Stmt := topS 19
theorem sc_growing_behind : FnScope ["numeral", "number"] ["numeral"] (defScope s_growing_behind) := ⟨rfl, rfl, rfl, by decide +kernel, rfl, by decide +kernel, by decide +kernel⟩
abbrev s_law_cell : Stmt := topS 21
theorem sc_law_cell : FnScope ["_law_script", "_law_k"] ["_law_script", "_law_k"] (defScope s_law_cell) := ⟨rfl, rfl, rfl, by decide +kernel, rfl, by decide +kernel, by decide +kernel⟩
abbrev s_law_drawn : Stmt := topS 22
theorem sc_law_drawn : FnScope ["_law_cell_here", "_law_k", "_law_more"] ["_law_cell_here", "_law_k"] (defScope s_law_drawn) := ⟨rfl, rfl, rfl, by decide +kernel, rfl, by decide +kernel, by decide +kernel⟩
abbrev s_law_number : Stmt := topS 23
theorem sc_law_number : FnScope ["_law_more", "_law_top", "_law_some"] ["_law_more"] (defScope s_law_number) := ⟨rfl, rfl, rfl, by decide +kernel, rfl, by decide +kernel, by decide +kernel⟩
abbrev s_law_row : Stmt := topS 24
theorem sc_law_row : FnScope ["_law_count", "_law_found"] ["_law_count"] (defScope s_law_row) := ⟨rfl, rfl, rfl, by decide +kernel, rfl, by decide +kernel, by decide +kernel⟩
abbrev s_law_worth : Stmt := topS 25
theorem sc_law_worth : FnScope ["_law_text", "_law_one", "_law_sign"] ["_law_text"] (defScope s_law_worth) := ⟨rfl, rfl, rfl, by decide +kernel, rfl, by decide +kernel, by decide +kernel⟩
abbrev s_law_numeral : Stmt := topS 26
theorem sc_law_numeral : FnScope ["_law_number_here", "_law_found", "_law_one"] ["_law_number_here"] (defScope s_law_numeral) := ⟨rfl, rfl, rfl, by decide +kernel, rfl, by decide +kernel, by decide +kernel⟩
abbrev s_law_steps : Stmt := topS 27
theorem sc_law_steps : FnScope ["_law_text", "_law_row_here", "_law_count", "_law_some", "_law_spot"] ["_law_text"] (defScope s_law_steps) := ⟨rfl, rfl, rfl, by decide +kernel, rfl, by decide +kernel, by decide +kernel⟩
abbrev s_law_law : Stmt := topS 28
theorem sc_law_law : FnScope ["_law_script", "_law_k", "_law_more", "_law_j", "_law_here", "_law_number_here", "_law_text", "_law_size", "_law_signs", "_law_n"] ["_law_script"] (defScope s_law_law) := ⟨rfl, rfl, rfl, by decide +kernel, rfl, by decide +kernel, by decide +kernel⟩
structure Facts (c : Cfg) : Prop where
  z_all : c.mg "all" = none
  z_bool : c.mg "bool" = none
  z_int : c.mg "int" = none
  z_isinstance : c.mg "isinstance" = none
  z_len : c.mg "len" = none
  z_list : c.mg "list" = none
  z_max : c.mg "max" = none
  z_min : c.mg "min" = none
  z_range : c.mg "range" = none
  z_str : c.mg "str" = none
  z_sum : c.mg "sum" = none
  z_zip : c.mg "zip" = none
  g_MOST : ∃ t, c.mg "MOST" = some (.int 1000000000000 t)
  g_MOST_SIGNS : ∃ t, c.mg "MOST_SIGNS" = some (.int 60 t)
  x_NumeralError : XCls c 0 "NumeralError"
  x_BadNumber : XCls c 1 "BadNumber"
  x_BadNumeral : XCls c 3 "BadNumeral"
  f_is_count : FnFact c "is_count" "is_count" s_numbers_is_count ["thing", "low", "high"]
  f_need_number : FnFact c "need_number" "need_number" s_numbers_need_number ["thing", "low", "high"]
  f_row_to : FnFact c "row_to" "row_to" s_growing_row_to ["number"]
  f_numeral_of : FnFact c "numeral_of" "numeral_of" s_growing_numeral_of ["number"]
  f_write : FnFact c "write" "write" s_growing_write ["number"]
  f_worth_of : FnFact c "worth_of" "worth_of" s_growing_worth_of ["numeral"]
  f_need_figures : FnFact c "need_figures" "need_figures" s_growing_need_figures ["numeral"]
  f_worth : FnFact c "worth" "worth" s_growing_worth ["numeral"]
  f_read : FnFact c "read" "read" s_growing_read ["numeral"]
  f_shaped : FnFact c "shaped" "shaped" s_growing_shaped ["numeral"]
  f_steps_of : FnFact c "steps_of" "steps_of" s_growing_steps_of ["numeral"]
  f_behind : FnFact c "behind" "behind" s_growing_behind ["numeral"]
  f__law_cell : FnFact c "_law_cell" "_law_cell" s_law_cell ["_law_script", "_law_k"]
  f__law_drawn : FnFact c "_law_drawn" "_law_drawn" s_law_drawn ["_law_cell_here", "_law_k"]
  f__law_number : FnFact c "_law_number" "_law_number" s_law_number ["_law_more"]
  f__law_row : FnFact c "_law_row" "_law_row" s_law_row ["_law_count"]
  f__law_worth : FnFact c "_law_worth" "_law_worth" s_law_worth ["_law_text"]
  f__law_numeral : FnFact c "_law_numeral" "_law_numeral" s_law_numeral ["_law_number_here"]
  f__law_steps : FnFact c "_law_steps" "_law_steps" s_law_steps ["_law_text"]
  f_law : FnFact c "law" "law" s_law_law ["_law_script"]
theorem b_numbers_is_count {c : Cfg} (X : Facts c) : SSs c ["thing", "low", "high"] ⟨defScope s_numbers_is_count, none⟩ 1 (defBody s_numbers_is_count) numbers_is_count_F :=
    (ss_one (ss_ret (se_and (se_isi is_int X.z_isinstance X.z_int (by decide +kernel) ((se_var (i := 0))).t) (se_and (se_not (se_isi is_bool X.z_isinstance X.z_bool (by decide +kernel) ((se_var (i := 0))).t)) (se_one (se_chain cm_le cm_le ((se_var (i := 1))).t ((se_var (i := 0))).t ((se_var (i := 2))).t))))))
theorem C_is_count {c : Cfg} (X : Facts c) : Callee c 2 "is_count" 3 numbers_is_count := callee_of X.f_is_count sc_numbers_is_count (b_numbers_is_count X)
theorem b_numbers_need_number {c : Cfg} (X : Facts c) : SSs c ["thing", "low", "high"] ⟨defScope s_numbers_need_number, none⟩ 2 (defBody s_numbers_need_number) numbers_need_number_F :=
    (ss_one (ss_if (sb_not (sb_tru ((se_call ((C_is_count X).mono (by decide)) (sa_cons (se_var (i := 0)) (sa_cons (se_var (i := 1)) (sa_cons (se_var (i := 2)) sa_nil))))).t))
    (ss_one (ss_raise X.x_BadNumber))
    ss_nil))
theorem C_need_number {c : Cfg} (X : Facts c) : Callee c 3 "need_number" 3 numbers_need_number := callee_of X.f_need_number sc_numbers_need_number (b_numbers_need_number X)
theorem b_growing_row_to {c : Cfg} (X : Facts c) : SSs c ["number", "found", "one"] ⟨defScope s_growing_row_to, none⟩ 1 (defBody s_growing_row_to) growing_row_to_F :=
    (ss_cons (ss_setO (i := 1) (sf_lst (sa_cons se_int (sa_cons se_int sa_nil))))
    (ss_cons (ss_while (sb_cm cm_le ((se_add ((se_idx (st_own (i := 1)) ((se_neg (se_int).t)).t)).t ((se_idx (st_own (i := 1)) ((se_neg (se_int).t)).t)).t)).t ((se_var (i := 0))).t)
    (ss_one (ss_append (i := 1) (se_add ((se_idx (st_own (i := 1)) ((se_neg (se_int).t)).t)).t ((se_idx (st_own (i := 1)) ((se_neg (se_int).t)).t)).t))))
    (ss_freeze (i := 1) (ss_one (ss_ret ((sf_lc (own := [("one", 2)]) (vs := [2]) (si_seq (se_var (i := 1))) (hg := (sg_name (i := 2))) (ht := (sts_one (sb_cm cm_le ((se_var (i := 2))).t ((se_var (i := 0))).t))) (he := (se_var (i := 2))))).e)))))
theorem C_row_to {c : Cfg} (X : Facts c) : Callee c 2 "row_to" 1 growing_row_to := callee_of X.f_row_to sc_growing_row_to (b_growing_row_to X)
theorem b_growing_numeral_of {c : Cfg} (X : Facts c) : SSs c ["number", "found", "one"] ⟨defScope s_growing_numeral_of, none⟩ 2 (defBody s_growing_numeral_of) growing_numeral_of_F :=
    (ss_cons (ss_if (sb_cm cm_eq ((se_var (i := 0))).t (se_int).t)
    (ss_one (ss_ret (se_str (y := [48]) (by decide +kernel))))
    ss_nil)
    (ss_cons (ss_set (i := 1) (se_str (y := []) (by decide +kernel)))
    (ss_cons (ss_for (vs := [2]) (si_seq (se_rev ((se_call ((C_row_to X).mono (by decide)) (sa_cons (se_var (i := 0)) sa_nil))).t)) (sg_name (i := 2))
    (ss_cons (ss_set (i := 1) (se_add ((se_var (i := 1))).t ((pe_ifExp' (sb_cm cm_le ((se_var (i := 2))).t ((se_var (i := 0))).t) (se_str (y := [49]) (by decide +kernel)) (se_str (y := [48]) (by decide +kernel)))).t))
    (ss_one (ss_set (i := 0) (pe_ifExp' (sb_cm cm_le ((se_var (i := 2))).t ((se_var (i := 0))).t) (se_sub ((se_var (i := 0))).t ((se_var (i := 2))).t) (se_var (i := 0)))))))
    (ss_one (ss_ret (se_var (i := 1)))))))
theorem C_numeral_of {c : Cfg} (X : Facts c) : Callee c 3 "numeral_of" 1 growing_numeral_of := callee_of X.f_numeral_of sc_growing_numeral_of (b_growing_numeral_of X)
theorem b_growing_write {c : Cfg} (X : Facts c) : SSs c ["number"] ⟨defScope s_growing_write, none⟩ 3 (defBody s_growing_write) growing_write_F :=
    (ss_cons (ss_expr ((se_call ((C_need_number X).mono (by decide)) (sa_cons (se_var (i := 0)) (sa_cons se_int (sa_cons (se_gint X.g_MOST) sa_nil))))).t)
    (ss_one (ss_ret (se_call ((C_numeral_of X).mono (by decide)) (sa_cons (se_var (i := 0)) sa_nil)))))
theorem C_write {c : Cfg} (X : Facts c) : Callee c 4 "write" 1 growing_write := callee_of X.f_write sc_growing_write (b_growing_write X)
theorem b_growing_worth_of {c : Cfg} (X : Facts c) : SSs c ["numeral", "found", "one", "other", "sign"] ⟨defScope s_growing_worth_of, none⟩ 1 (defBody s_growing_worth_of) growing_worth_of_F :=
    (ss_cons (ss_asg (vs := [1, 2, 3]) (se_tup (sa_cons se_int (sa_cons se_int (sa_cons se_int sa_nil)))) (sg_tup (sgs_cons (sg_name (i := 1)) (sgs_cons (sg_name (i := 2)) (sgs_cons (sg_name (i := 3)) sgs_nil)))))
    (ss_cons (ss_for (vs := [4]) (si_seq (se_rev ((se_var (i := 0))).t)) (sg_name (i := 4))
    (ss_cons (ss_set (i := 1) (se_add ((se_var (i := 1))).t ((pe_ifExp' (sb_cm cm_eq ((se_var (i := 4))).t ((se_str (y := [49]) (by decide +kernel))).t) (se_var (i := 2)) se_int)).t))
    (ss_one (ss_par2 (spar_sh (i := 2) (se_var (i := 3)) (spar_sh (i := 3) (se_add ((se_var (i := 2))).t ((se_var (i := 3))).t) spar_nil))))))
    (ss_one (ss_ret (se_var (i := 1))))))
theorem C_worth_of {c : Cfg} (X : Facts c) : Callee c 2 "worth_of" 1 growing_worth_of := callee_of X.f_worth_of sc_growing_worth_of (b_growing_worth_of X)
theorem b_growing_need_figures {c : Cfg} (X : Facts c) : SSs c ["numeral", "good", "sign"] ⟨defScope s_growing_need_figures, none⟩ 2 (defBody s_growing_need_figures) growing_need_figures_F :=
    (ss_cons (ss_set (i := 1) (se_and (se_isi is_str' X.z_isinstance X.z_str (by decide +kernel) ((se_var (i := 0))).t) (se_and (se_chain cm_le cm_le (se_int).t ((se_callB cr_len co_len X.z_len (by decide +kernel) (sta_cons ((se_var (i := 0))).t sta_nil))).t ((se_gint X.g_MOST_SIGNS)).t) (se_one (se_callB cr_all' co_all X.z_all (by decide +kernel) (sta_cons ((sf_lc (own := [("sign", 2)]) (vs := [2]) (si_seq (se_var (i := 0))) (hg := (sg_name (i := 2))) (ht := sts_nil) (he := (se_cm cm_in ((se_var (i := 2))).t ((se_str (y := [48, 49]) (by decide +kernel))).t)))).t sta_nil))))))
    (ss_one (ss_if (sb_w (sw_or (sb_not (sb_tru ((se_var (i := 1))).t)) (sw_or1 (sb_cm cm_gt ((se_call ((C_worth_of X).mono (by decide)) (sa_cons (se_var (i := 0)) sa_nil))).t ((se_gint X.g_MOST)).t))))
    (ss_one (ss_raise X.x_BadNumeral))
    ss_nil)))
theorem C_need_figures {c : Cfg} (X : Facts c) : Callee c 3 "need_figures" 1 growing_need_figures := callee_of X.f_need_figures sc_growing_need_figures (b_growing_need_figures X)
theorem b_growing_worth {c : Cfg} (X : Facts c) : SSs c ["numeral"] ⟨defScope s_growing_worth, none⟩ 3 (defBody s_growing_worth) growing_worth_F :=
    (ss_cons (ss_expr ((se_call ((C_need_figures X).mono (by decide)) (sa_cons (se_var (i := 0)) sa_nil))).t)
    (ss_one (ss_ret (se_call ((C_worth_of X).mono (by decide)) (sa_cons (se_var (i := 0)) sa_nil)))))
theorem C_worth {c : Cfg} (X : Facts c) : Callee c 4 "worth" 1 growing_worth := callee_of X.f_worth sc_growing_worth (b_growing_worth X)
theorem b_growing_read {c : Cfg} (X : Facts c) : SSs c ["numeral"] ⟨defScope s_growing_read, none⟩ 3 (defBody s_growing_read) growing_read_F :=
    (ss_cons (ss_expr ((se_call ((C_need_figures X).mono (by decide)) (sa_cons (se_var (i := 0)) sa_nil))).t)
    (ss_cons (ss_if (sb_cm cm_ne ((se_call ((C_numeral_of X).mono (by decide)) (sa_cons (se_call ((C_worth_of X).mono (by decide)) (sa_cons (se_var (i := 0)) sa_nil)) sa_nil))).t ((se_var (i := 0))).t)
    (ss_one (ss_raise X.x_BadNumeral))
    ss_nil)
    (ss_one (ss_ret (se_call ((C_worth_of X).mono (by decide)) (sa_cons (se_var (i := 0)) sa_nil))))))
theorem C_read {c : Cfg} (X : Facts c) : Callee c 4 "read" 1 growing_read := callee_of X.f_read sc_growing_read (b_growing_read X)
theorem b_growing_shaped {c : Cfg} (X : Facts c) : SSs c ["numeral", "found", "at"] ⟨defScope s_growing_shaped, none⟩ 3 (defBody s_growing_shaped) growing_shaped_F :=
    (ss_cons (ss_expr ((se_call ((C_need_figures X).mono (by decide)) (sa_cons (se_var (i := 0)) sa_nil))).t)
    (ss_cons (ss_set (i := 1) (se_add ((se_str (y := [48]) (by decide +kernel))).t ((se_var (i := 0))).t))
    (ss_cons (ss_while (sb_cm cm_inX ((se_str (y := [48, 49, 49]) (by decide +kernel))).t ((se_var (i := 1))).t)
    (ss_cons (ss_set (i := 2) (se_index ((se_var (i := 1))).t ((se_str (y := [48, 49, 49]) (by decide +kernel))).t))
    (ss_one (ss_set (i := 1) (se_add ((se_add ((se_cut ((se_var (i := 1))).t sp_none (sp_some ((se_var (i := 2))).t))).t ((se_str (y := [49, 48, 48]) (by decide +kernel))).t)).t ((se_cut ((se_var (i := 1))).t (sp_some ((se_add ((se_var (i := 2))).t (se_int).t)).t) sp_none)).t)))))
    (ss_cons (ss_set (i := 1) (se_lstrip ((se_var (i := 1))).t ((se_str (y := [48]) (by decide +kernel))).t))
    (ss_one (ss_ret (pe_ifExp' (sb_cm cm_ne ((se_var (i := 1))).t ((se_str (y := []) (by decide +kernel))).t) (se_var (i := 1)) (se_str (y := [48]) (by decide +kernel)))))))))
theorem C_shaped {c : Cfg} (X : Facts c) : Callee c 4 "shaped" 1 growing_shaped := callee_of X.f_shaped sc_growing_shaped (b_growing_shaped X)
theorem b_growing_steps_of {c : Cfg} (X : Facts c) : SSs c ["numeral", "found", "count", "at"] ⟨defScope s_growing_steps_of, none⟩ 3 (defBody s_growing_steps_of) growing_steps_of_F :=
    (ss_cons (ss_expr ((se_call ((C_need_figures X).mono (by decide)) (sa_cons (se_var (i := 0)) sa_nil))).t)
    (ss_cons (ss_par2 (spar_sh (i := 1) (se_add ((se_str (y := [48]) (by decide +kernel))).t ((se_var (i := 0))).t) (spar_sh (i := 2) se_int spar_nil)))
    (ss_cons (ss_while (sb_cm cm_inX ((se_str (y := [48, 49, 49]) (by decide +kernel))).t ((se_var (i := 1))).t)
    (ss_cons (ss_set (i := 3) (se_index ((se_var (i := 1))).t ((se_str (y := [48, 49, 49]) (by decide +kernel))).t))
    (ss_cons (ss_set (i := 1) (se_add ((se_add ((se_cut ((se_var (i := 1))).t sp_none (sp_some ((se_var (i := 3))).t))).t ((se_str (y := [49, 48, 48]) (by decide +kernel))).t)).t ((se_cut ((se_var (i := 1))).t (sp_some ((se_add ((se_var (i := 3))).t (se_int).t)).t) sp_none)).t))
    (ss_one (ss_set (i := 2) (se_add ((se_var (i := 2))).t (se_int).t))))))
    (ss_one (ss_ret (se_var (i := 2)))))))
theorem C_steps_of {c : Cfg} (X : Facts c) : Callee c 4 "steps_of" 1 growing_steps_of := callee_of X.f_steps_of sc_growing_steps_of (b_growing_steps_of X)
theorem b_growing_behind {c : Cfg} (X : Facts c) : SSs c ["numeral", "number"] ⟨defScope s_growing_behind, none⟩ 4 (defBody s_growing_behind) growing_behind_F :=
    (ss_cons (ss_set (i := 1) (se_call ((C_read X).mono (by decide)) (sa_cons (se_var (i := 0)) sa_nil)))
    (ss_cons (ss_expr ((se_call ((C_need_number X).mono (by decide)) (sa_cons (se_add ((se_var (i := 1))).t (se_int).t) (sa_cons se_int (sa_cons (se_gint X.g_MOST) sa_nil))))).t)
    (ss_one (ss_ret (se_call ((C_numeral_of X).mono (by decide)) (sa_cons (se_add ((se_var (i := 1))).t (se_int).t) sa_nil))))))
theorem C_behind {c : Cfg} (X : Facts c) : Callee c 5 "behind" 1 growing_behind := callee_of X.f_behind sc_growing_behind (b_growing_behind X)
theorem b_law_cell {c : Cfg} (X : Facts c) : SSs c ["_law_script", "_law_k"] ⟨defScope s_law_cell, none⟩ 1 (defBody s_law_cell) law_cell_F :=
    (ss_cons (ss_if (sb_cm cm_eq ((se_var (i := 0))).t ((sf_lst sa_nil)).t)
    (ss_one (ss_ret (se_mul ((se_var (i := 1))).t (se_int).t)))
    ss_nil)
    (ss_one (ss_ret (se_add ((se_idx ((se_var (i := 0))).t ((se_mod ((se_var (i := 1))).t ((se_callB cr_len co_len X.z_len (by decide +kernel) (sta_cons ((se_var (i := 0))).t sta_nil))).t)).t)).t ((se_mul ((se_div ((se_var (i := 1))).t ((se_callB cr_len co_len X.z_len (by decide +kernel) (sta_cons ((se_var (i := 0))).t sta_nil))).t)).t (se_int).t)).t))))
theorem C__law_cell {c : Cfg} (X : Facts c) : Callee c 2 "_law_cell" 2 law_cell := callee_of X.f__law_cell sc_law_cell (b_law_cell X)
theorem b_law_drawn {c : Cfg} (X : Facts c) : SSs c ["_law_cell_here", "_law_k", "_law_more"] ⟨defScope s_law_drawn, none⟩ 1 (defBody s_law_drawn) law_drawn_F :=
    (ss_cons (ss_set (i := 2) (se_mod ((se_add ((se_mul ((se_var (i := 0))).t (se_int).t)).t ((se_mul ((se_add ((se_var (i := 1))).t (se_int).t)).t (se_int).t)).t)).t (se_int).t))
    (ss_cons (ss_set (i := 2) (se_mod ((se_mul ((se_var (i := 2))).t ((se_var (i := 2))).t)).t (se_int).t))
    (ss_cons (ss_set (i := 2) (se_mul ((se_mul ((se_add ((se_mod ((se_var (i := 2))).t (se_int).t)).t (se_int).t)).t ((se_add ((se_div ((se_var (i := 2))).t (se_int).t)).t (se_int).t)).t)).t ((se_var (i := 2))).t))
    (ss_one (ss_ret (se_mod ((se_var (i := 2))).t (se_int).t))))))
theorem C__law_drawn {c : Cfg} (X : Facts c) : Callee c 2 "_law_drawn" 2 law_drawn := callee_of X.f__law_drawn sc_law_drawn (b_law_drawn X)
theorem b_law_number {c : Cfg} (X : Facts c) : SSs c ["_law_more", "_law_top", "_law_some"] ⟨defScope s_law_number, none⟩ 1 (defBody s_law_number) law_number_F :=
    (ss_cons (ss_set (i := 1) se_int)
    (ss_cons (ss_set (i := 2) ((sf_lst (sa_cons (se_mod ((se_div ((se_var (i := 0))).t (se_int).t)).t (se_int).t) (sa_cons (se_mod ((se_div ((se_var (i := 0))).t (se_int).t)).t (se_int).t) (sa_cons (se_mod ((se_div ((se_var (i := 0))).t (se_int).t)).t ((se_add ((se_var (i := 1))).t (se_int).t)).t) (sa_cons (se_sub ((se_var (i := 1))).t ((se_mod ((se_div ((se_var (i := 0))).t (se_int).t)).t (se_int).t)).t) (sa_cons (se_add (se_int).t ((se_mod ((se_div ((se_var (i := 0))).t (se_int).t)).t (se_int).t)).t) sa_nil))))))).e)
    (ss_one (ss_ret (se_idx ((se_var (i := 2))).t ((se_mod ((se_var (i := 0))).t (se_int).t)).t)))))
theorem C__law_number {c : Cfg} (X : Facts c) : Callee c 2 "_law_number" 1 law_number := callee_of X.f__law_number sc_law_number (b_law_number X)
theorem b_law_row {c : Cfg} (X : Facts c) : SSs c ["_law_count", "_law_found"] ⟨defScope s_law_row, none⟩ 1 (defBody s_law_row) law_row_F :=
    (ss_cons (ss_setO (i := 1) (sf_lst (sa_cons se_int (sa_cons se_int sa_nil))))
    (ss_cons (ss_while (sb_cm cm_lt ((se_callB cr_len co_len X.z_len (by decide +kernel) (sta_cons (st_own (i := 1)) sta_nil))).t ((se_var (i := 0))).t)
    (ss_one (ss_append (i := 1) (se_add ((se_idx (st_own (i := 1)) ((se_neg (se_int).t)).t)).t ((se_idx (st_own (i := 1)) ((se_neg (se_int).t)).t)).t))))
    (ss_freeze (i := 1) (ss_one (ss_ret (se_var (i := 1)))))))
theorem C__law_row {c : Cfg} (X : Facts c) : Callee c 2 "_law_row" 1 law_row := callee_of X.f__law_row sc_law_row (b_law_row X)
theorem b_law_worth {c : Cfg} (X : Facts c) : SSs c ["_law_text", "_law_one", "_law_sign"] ⟨defScope s_law_worth, none⟩ 2 (defBody s_law_worth) law_worth_F :=
    (ss_one (ss_ret (se_callB cr_sum' co_sum X.z_sum (by decide +kernel) (sta_cons ((sf_lc (own := [("_law_one", 1), ("_law_sign", 2)]) (vs := [1, 2]) (si_zip X.z_zip (se_call ((C__law_row X).mono (by decide)) (sa_cons se_int sa_nil)) (se_rev ((se_var (i := 0))).t)) (hg := (sg_tup (sgs_cons (sg_name (i := 1)) (sgs_cons (sg_name (i := 2)) sgs_nil)))) (ht := (sts_one (sb_cm cm_eq ((se_var (i := 2))).t ((se_str (y := [49]) (by decide +kernel))).t))) (he := (se_var (i := 1))))).t sta_nil))))
theorem C__law_worth {c : Cfg} (X : Facts c) : Callee c 3 "_law_worth" 1 law_worth := callee_of X.f__law_worth sc_law_worth (b_law_worth X)
theorem b_law_numeral {c : Cfg} (X : Facts c) : SSs c ["_law_number_here", "_law_found", "_law_one"] ⟨defScope s_law_numeral, none⟩ 2 (defBody s_law_numeral) law_numeral_F :=
    (ss_cons (ss_set (i := 1) (se_str (y := []) (by decide +kernel)))
    (ss_cons (ss_for (vs := [2]) (si_seq (se_rev ((se_call ((C__law_row X).mono (by decide)) (sa_cons se_int sa_nil))).t)) (sg_name (i := 2))
    (ss_cons (ss_set (i := 1) (se_add ((se_var (i := 1))).t ((pe_ifExp' (sb_cm cm_le ((se_var (i := 2))).t ((se_var (i := 0))).t) (se_str (y := [49]) (by decide +kernel)) (se_str (y := [48]) (by decide +kernel)))).t))
    (ss_one (ss_set (i := 0) (se_sub ((se_var (i := 0))).t ((se_mul ((se_var (i := 2))).t ((se_callTy cr_int co_int X.z_int (by decide +kernel) (sta_cons ((se_cm cm_le ((se_var (i := 2))).t ((se_var (i := 0))).t)).t sta_nil))).t)).t)))))
    (ss_one (ss_ret (pe_ifExp' (sb_cm cm_in ((se_str (y := [49]) (by decide +kernel))).t ((se_var (i := 1))).t) (se_lstrip ((se_var (i := 1))).t ((se_str (y := [48]) (by decide +kernel))).t) (se_str (y := [48]) (by decide +kernel)))))))
theorem C__law_numeral {c : Cfg} (X : Facts c) : Callee c 3 "_law_numeral" 1 law_numeral := callee_of X.f__law_numeral sc_law_numeral (b_law_numeral X)
theorem b_law_steps {c : Cfg} (X : Facts c) : SSs c ["_law_text", "_law_row_here", "_law_count", "_law_some", "_law_spot"] ⟨defScope s_law_steps, none⟩ 1 (defBody s_law_steps) law_steps_F :=
    (ss_cons (ss_asgPar2 (spar_ow (i := 1) (sf_catL ((sf_lst (sa_cons (se_str (y := [48]) (by decide +kernel)) sa_nil))).t ((se_callTy cr_listS co_listS X.z_list (by decide +kernel) (sta_cons ((se_var (i := 0))).t sta_nil))).t) (spar_sh (i := 2) se_int spar_nil)))
    (ss_one (ss_while (sb_tru (se_bl).t)
    (ss_cons (ss_setLcT (i := 3) (j := 1) (own := [("_law_spot", 4)]) (vs := [4]) (si_range1 X.z_range ((se_sub ((se_callB cr_len co_len X.z_len (by decide +kernel) (sta_cons (st_own (i := 1)) sta_nil))).t (se_int).t)).t) (hg := (sg_name (i := 4))) (ht := (sts_one (sb_cm cm_eq ((se_cut ((se_var (i := 1))).t (sp_some ((se_var (i := 4))).t) (sp_some ((se_add ((se_var (i := 4))).t (se_int).t)).t))).t ((sf_lst (sa_cons (se_str (y := [48]) (by decide +kernel)) (sa_cons (se_str (y := [49]) (by decide +kernel)) (sa_cons (se_str (y := [49]) (by decide +kernel)) sa_nil))))).t))) (he := (se_var (i := 4))))
    (ss_cons (ss_if (sb_cm cm_eq ((se_var (i := 3))).t ((sf_lst sa_nil)).t)
    (ss_one (ss_ret (se_var (i := 2))))
    ss_nil)
    (ss_cons (ss_putSl (i := 1) (sf_lst (sa_cons (se_str (y := [49]) (by decide +kernel)) (sa_cons (se_str (y := [48]) (by decide +kernel)) (sa_cons (se_str (y := [48]) (by decide +kernel)) sa_nil)))) ((se_idx ((se_var (i := 3))).t (se_int).t)).t ((se_add ((se_idx ((se_var (i := 3))).t (se_int).t)).t (se_int).t)).t)
    (ss_one (ss_set (i := 2) (se_add ((se_var (i := 2))).t (se_int).t)))))))))
theorem C__law_steps {c : Cfg} (X : Facts c) : Callee c 2 "_law_steps" 1 law_steps := callee_of X.f__law_steps sc_law_steps (b_law_steps X)
theorem b_law_law {c : Cfg} (X : Facts c) : SSs c ["_law_script", "_law_k", "_law_more", "_law_j", "_law_here", "_law_number_here", "_law_text", "_law_size", "_law_signs", "_law_n"] ⟨defScope s_law_law, none⟩ 5 (defBody s_law_law) law_law_F :=
    (ss_cons (ss_for (vs := [1]) (si_range1 X.z_range ((se_callB cr_max2 co_max2 X.z_max (by decide +kernel) (sta_cons (se_int).t (sta_cons ((se_callB cr_min2 co_min2 X.z_min (by decide +kernel) (sta_cons (se_int).t (sta_cons ((se_callB cr_len co_len X.z_len (by decide +kernel) (sta_cons ((se_var (i := 0))).t sta_nil))).t sta_nil)))).t sta_nil)))).t) (sg_name (i := 1))
    (ss_cons (ss_set (i := 2) (se_call ((C__law_drawn X).mono (by decide)) (sa_cons (se_call ((C__law_cell X).mono (by decide)) (sa_cons (se_var (i := 0)) (sa_cons (se_var (i := 1)) sa_nil))) (sa_cons (se_var (i := 1)) sa_nil))))
    (ss_cons (ss_for (vs := [3]) (si_range1 X.z_range (se_int).t) (sg_name (i := 3))
    (ss_cons (ss_set (i := 4) (se_call ((C__law_drawn X).mono (by decide)) (sa_cons (se_var (i := 2)) (sa_cons (se_add (se_int).t ((se_var (i := 3))).t) sa_nil))))
    (ss_cons (ss_set (i := 5) (se_call ((C__law_number X).mono (by decide)) (sa_cons (se_var (i := 4)) sa_nil)))
    (ss_cons (ss_set (i := 6) (se_call ((C__law_numeral X).mono (by decide)) (sa_cons (se_var (i := 5)) sa_nil)))
    (ss_cons (ss_if (sb_w (sw_or (sb_cm cm_ne ((se_call ((C_write X).mono (by decide)) (sa_cons (se_var (i := 5)) sa_nil))).t ((se_var (i := 6))).t) (sw_or (sb_cm cm_ne ((se_call ((C_read X).mono (by decide)) (sa_cons (se_var (i := 6)) sa_nil))).t ((se_var (i := 5))).t) (sw_or (sb_cm cm_ne ((se_call ((C_worth X).mono (by decide)) (sa_cons (se_var (i := 6)) sa_nil))).t ((se_var (i := 5))).t) (sw_or1 (sb_cm cm_inX ((se_str (y := [49, 49]) (by decide +kernel))).t ((se_var (i := 6))).t))))))
    (ss_one (ss_ret se_bl))
    ss_nil)
    (ss_cons (ss_if (sb_w (sw_and (sb_cm cm_lt ((se_var (i := 5))).t (se_int).t) (sw_and1 (sb_cm cm_ne ((se_call ((C_behind X).mono (by decide)) (sa_cons (se_var (i := 6)) sa_nil))).t ((se_call ((C__law_numeral X).mono (by decide)) (sa_cons (se_add ((se_var (i := 5))).t (se_int).t) sa_nil))).t))))
    (ss_one (ss_ret se_bl))
    ss_nil)
    (ss_cons (ss_set (i := 7) (se_add (se_int).t ((se_mod ((se_div ((se_var (i := 4))).t (se_int).t)).t (se_int).t)).t))
    (ss_cons (ss_set (i := 8) (se_join ((se_str (y := []) (by decide +kernel))).t ((sf_lc (own := [("_law_n", 9)]) (vs := [9]) (si_range1 X.z_range ((se_var (i := 7))).t) (hg := (sg_name (i := 9))) (ht := sts_nil) (he := (se_idx ((se_str (y := [48, 49]) (by decide +kernel))).t ((se_mod ((se_mod ((se_div ((se_call ((C__law_drawn X).mono (by decide)) (sa_cons (se_var (i := 4)) (sa_cons (se_var (i := 9)) sa_nil)))).t (se_int).t)).t ((se_idx ((sf_lst (sa_cons se_int (sa_cons se_int sa_nil)))).t ((se_mod ((se_var (i := 4))).t (se_int).t)).t)).t)).t (se_int).t)).t)))).t))
    (ss_cons (ss_if (sb_w (sw_or (sb_cm cm_ne ((se_call ((C_worth X).mono (by decide)) (sa_cons (se_var (i := 8)) sa_nil))).t ((se_call ((C__law_worth X).mono (by decide)) (sa_cons (se_var (i := 8)) sa_nil))).t) (sw_or1 (sb_cm cm_ne ((se_call ((C_shaped X).mono (by decide)) (sa_cons (se_var (i := 8)) sa_nil))).t ((se_call ((C__law_numeral X).mono (by decide)) (sa_cons (se_call ((C__law_worth X).mono (by decide)) (sa_cons (se_var (i := 8)) sa_nil)) sa_nil))).t))))
    (ss_one (ss_ret se_bl))
    ss_nil)
    (ss_one (ss_if (sb_w (sw_or (sb_cm cm_ne ((se_call ((C_steps_of X).mono (by decide)) (sa_cons (se_var (i := 8)) sa_nil))).t ((se_call ((C__law_steps X).mono (by decide)) (sa_cons (se_var (i := 8)) sa_nil))).t) (sw_or (sb_cm cm_ne ((se_call ((C_steps_of X).mono (by decide)) (sa_cons (se_var (i := 6)) sa_nil))).t (se_int).t) (sw_or1 (sb_cm cm_ne ((se_call ((C_shaped X).mono (by decide)) (sa_cons (se_var (i := 6)) sa_nil))).t ((se_var (i := 6))).t)))))
    (ss_one (ss_ret se_bl))
    ss_nil)))))))))))
    (ss_one (ss_if (sb_cm cm_ne ((sf_lc (own := [("_law_number_here", 5)]) (vs := [5]) (si_range1 X.z_range (se_int).t) (hg := (sg_name (i := 5))) (ht := sts_nil) (he := (se_call ((C_write X).mono (by decide)) (sa_cons (se_var (i := 5)) sa_nil))))).t ((sf_lc (own := [("_law_number_here", 5)]) (vs := [5]) (si_range1 X.z_range (se_int).t) (hg := (sg_name (i := 5))) (ht := sts_nil) (he := (se_call ((C__law_numeral X).mono (by decide)) (sa_cons (se_var (i := 5)) sa_nil))))).t)
    (ss_one (ss_ret se_bl))
    ss_nil)))))
    (ss_one (ss_ret se_bl)))
theorem C_law {c : Cfg} (X : Facts c) : Callee c 6 "law" 1 law_law := callee_of X.f_law sc_law_law (b_law_law X)
theorem end_mk {P : Program} {w : World} {K : PySem.W.Frag} {h : Heap} {mg : Str → Option Value} {fa : Addr} (X : K.In h) (G : h.Ns mainGlobals mg) (hfa : mg "law" = some (.ref fa))
    (hlaw : ∀ ns : List Int, ns.length ≤ 63 → law_law [.fzl (ns.map .int)] = .ok (.bl true))
    {C_NumeralError : Addr}
    {C_BadNumber : Addr}
    {C_BadNumeral : Addr}
    {t_MOST : Tok}
    {t_MOST_SIGNS : Tok}
    {f_is_count : Addr} {oc_is_count : Value} {od_is_count an_is_count : Option Addr} {osl_is_count : Array (Option Value)} {kV_is_count doc_is_count pm_is_count cdv_is_count ct_is_count : Value}
    {f_need_number : Addr} {oc_need_number : Value} {od_need_number an_need_number : Option Addr} {osl_need_number : Array (Option Value)} {kV_need_number doc_need_number pm_need_number cdv_need_number ct_need_number : Value}
    {f_row_to : Addr} {oc_row_to : Value} {od_row_to an_row_to : Option Addr} {osl_row_to : Array (Option Value)} {kV_row_to doc_row_to pm_row_to cdv_row_to ct_row_to : Value}
    {f_numeral_of : Addr} {oc_numeral_of : Value} {od_numeral_of an_numeral_of : Option Addr} {osl_numeral_of : Array (Option Value)} {kV_numeral_of doc_numeral_of pm_numeral_of cdv_numeral_of ct_numeral_of : Value}
    {f_write : Addr} {oc_write : Value} {od_write an_write : Option Addr} {osl_write : Array (Option Value)} {kV_write doc_write pm_write cdv_write ct_write : Value}
    {f_worth_of : Addr} {oc_worth_of : Value} {od_worth_of an_worth_of : Option Addr} {osl_worth_of : Array (Option Value)} {kV_worth_of doc_worth_of pm_worth_of cdv_worth_of ct_worth_of : Value}
    {f_need_figures : Addr} {oc_need_figures : Value} {od_need_figures an_need_figures : Option Addr} {osl_need_figures : Array (Option Value)} {kV_need_figures doc_need_figures pm_need_figures cdv_need_figures ct_need_figures : Value}
    {f_worth : Addr} {oc_worth : Value} {od_worth an_worth : Option Addr} {osl_worth : Array (Option Value)} {kV_worth doc_worth pm_worth cdv_worth ct_worth : Value}
    {f_read : Addr} {oc_read : Value} {od_read an_read : Option Addr} {osl_read : Array (Option Value)} {kV_read doc_read pm_read cdv_read ct_read : Value}
    {f_shaped : Addr} {oc_shaped : Value} {od_shaped an_shaped : Option Addr} {osl_shaped : Array (Option Value)} {kV_shaped doc_shaped pm_shaped cdv_shaped ct_shaped : Value}
    {f_steps_of : Addr} {oc_steps_of : Value} {od_steps_of an_steps_of : Option Addr} {osl_steps_of : Array (Option Value)} {kV_steps_of doc_steps_of pm_steps_of cdv_steps_of ct_steps_of : Value}
    {f_behind : Addr} {oc_behind : Value} {od_behind an_behind : Option Addr} {osl_behind : Array (Option Value)} {kV_behind doc_behind pm_behind cdv_behind ct_behind : Value}
    {f__law_cell : Addr} {oc__law_cell : Value} {od__law_cell an__law_cell : Option Addr} {osl__law_cell : Array (Option Value)} {kV__law_cell doc__law_cell pm__law_cell cdv__law_cell ct__law_cell : Value}
    {f__law_drawn : Addr} {oc__law_drawn : Value} {od__law_drawn an__law_drawn : Option Addr} {osl__law_drawn : Array (Option Value)} {kV__law_drawn doc__law_drawn pm__law_drawn cdv__law_drawn ct__law_drawn : Value}
    {f__law_number : Addr} {oc__law_number : Value} {od__law_number an__law_number : Option Addr} {osl__law_number : Array (Option Value)} {kV__law_number doc__law_number pm__law_number cdv__law_number ct__law_number : Value}
    {f__law_row : Addr} {oc__law_row : Value} {od__law_row an__law_row : Option Addr} {osl__law_row : Array (Option Value)} {kV__law_row doc__law_row pm__law_row cdv__law_row ct__law_row : Value}
    {f__law_worth : Addr} {oc__law_worth : Value} {od__law_worth an__law_worth : Option Addr} {osl__law_worth : Array (Option Value)} {kV__law_worth doc__law_worth pm__law_worth cdv__law_worth ct__law_worth : Value}
    {f__law_numeral : Addr} {oc__law_numeral : Value} {od__law_numeral an__law_numeral : Option Addr} {osl__law_numeral : Array (Option Value)} {kV__law_numeral doc__law_numeral pm__law_numeral cdv__law_numeral ct__law_numeral : Value}
    {f__law_steps : Addr} {oc__law_steps : Value} {od__law_steps an__law_steps : Option Addr} {osl__law_steps : Array (Option Value)} {kV__law_steps doc__law_steps pm__law_steps cdv__law_steps ct__law_steps : Value}
    {f_law : Addr} {oc_law : Value} {od_law an_law : Option Addr} {osl_law : Array (Option Value)} {kV_law doc_law pm_law cdv_law ct_law : Value}
    (z_all : PySem.W.nsIn K mainGlobals "all" = some none)
    (z_bool : PySem.W.nsIn K mainGlobals "bool" = some none)
    (z_int : PySem.W.nsIn K mainGlobals "int" = some none)
    (z_isinstance : PySem.W.nsIn K mainGlobals "isinstance" = some none)
    (z_len : PySem.W.nsIn K mainGlobals "len" = some none)
    (z_list : PySem.W.nsIn K mainGlobals "list" = some none)
    (z_max : PySem.W.nsIn K mainGlobals "max" = some none)
    (z_min : PySem.W.nsIn K mainGlobals "min" = some none)
    (z_range : PySem.W.nsIn K mainGlobals "range" = some none)
    (z_str : PySem.W.nsIn K mainGlobals "str" = some none)
    (z_sum : PySem.W.nsIn K mainGlobals "sum" = some none)
    (z_zip : PySem.W.nsIn K mainGlobals "zip" = some none)
    (g_MOST : PySem.W.nsIn K mainGlobals "MOST" = some (some (.int 1000000000000 t_MOST)))
    (g_MOST_SIGNS : PySem.W.nsIn K mainGlobals "MOST_SIGNS" = some (some (.int 60 t_MOST_SIGNS)))
    (xa_NumeralError : PySem.W.nsIn K mainGlobals "NumeralError" = some (some (.ref C_NumeralError)))
    (xi_NumeralError : PySem.W.excIn K C_NumeralError [.type "ValueError", .type "Exception", .type "BaseException", .type "object"] "ValueError.__new__" = true)
    (xk_NumeralError : PySem.W.keepIn K (.ref C_NumeralError) = true)
    (xb_NumeralError : PySem.W.subIn K (.ref C_NumeralError) (.type "BaseException") = some true)
    (xt_NumeralError : PySem.W.typeIn K (.ref C_NumeralError) = some (.type "type"))
    (xa_BadNumber : PySem.W.nsIn K mainGlobals "BadNumber" = some (some (.ref C_BadNumber)))
    (xi_BadNumber : PySem.W.excIn K C_BadNumber [.type "ValueError", .type "Exception", .type "BaseException", .type "object"] "ValueError.__new__" = true)
    (xk_BadNumber : PySem.W.keepIn K (.ref C_BadNumber) = true)
    (xb_BadNumber : PySem.W.subIn K (.ref C_BadNumber) (.type "BaseException") = some true)
    (xt_BadNumber : PySem.W.typeIn K (.ref C_BadNumber) = some (.type "type"))
    (xa_BadNumeral : PySem.W.nsIn K mainGlobals "BadNumeral" = some (some (.ref C_BadNumeral)))
    (xi_BadNumeral : PySem.W.excIn K C_BadNumeral [.type "ValueError", .type "Exception", .type "BaseException", .type "object"] "ValueError.__new__" = true)
    (xk_BadNumeral : PySem.W.keepIn K (.ref C_BadNumeral) = true)
    (xb_BadNumeral : PySem.W.subIn K (.ref C_BadNumeral) (.type "BaseException") = some true)
    (xt_BadNumeral : PySem.W.typeIn K (.ref C_BadNumeral) = some (.type "type"))
    (fa_is_count : PySem.W.nsIn K mainGlobals "is_count" = some (some (.ref f_is_count)))
    (fl_is_count : K.lookup f_is_count = some ⟨oc_is_count, od_is_count, .func (PySem.W.fnOf "is_count" "is_count" (defArgs s_numbers_is_count) (defBody s_numbers_is_count) (defScope s_numbers_is_count) .none kV_is_count doc_is_count pm_is_count an_is_count cdv_is_count ct_is_count), osl_is_count⟩)
    (fc_is_count : PySem.W.codeIn K cdv_is_count "is_count" = true)
    (fk_is_count : PySem.W.keepIn K (.ref f_is_count) = true)
    (fa_need_number : PySem.W.nsIn K mainGlobals "need_number" = some (some (.ref f_need_number)))
    (fl_need_number : K.lookup f_need_number = some ⟨oc_need_number, od_need_number, .func (PySem.W.fnOf "need_number" "need_number" (defArgs s_numbers_need_number) (defBody s_numbers_need_number) (defScope s_numbers_need_number) .none kV_need_number doc_need_number pm_need_number an_need_number cdv_need_number ct_need_number), osl_need_number⟩)
    (fc_need_number : PySem.W.codeIn K cdv_need_number "need_number" = true)
    (fk_need_number : PySem.W.keepIn K (.ref f_need_number) = true)
    (fa_row_to : PySem.W.nsIn K mainGlobals "row_to" = some (some (.ref f_row_to)))
    (fl_row_to : K.lookup f_row_to = some ⟨oc_row_to, od_row_to, .func (PySem.W.fnOf "row_to" "row_to" (defArgs s_growing_row_to) (defBody s_growing_row_to) (defScope s_growing_row_to) .none kV_row_to doc_row_to pm_row_to an_row_to cdv_row_to ct_row_to), osl_row_to⟩)
    (fc_row_to : PySem.W.codeIn K cdv_row_to "row_to" = true)
    (fk_row_to : PySem.W.keepIn K (.ref f_row_to) = true)
    (fa_numeral_of : PySem.W.nsIn K mainGlobals "numeral_of" = some (some (.ref f_numeral_of)))
    (fl_numeral_of : K.lookup f_numeral_of = some ⟨oc_numeral_of, od_numeral_of, .func (PySem.W.fnOf "numeral_of" "numeral_of" (defArgs s_growing_numeral_of) (defBody s_growing_numeral_of) (defScope s_growing_numeral_of) .none kV_numeral_of doc_numeral_of pm_numeral_of an_numeral_of cdv_numeral_of ct_numeral_of), osl_numeral_of⟩)
    (fc_numeral_of : PySem.W.codeIn K cdv_numeral_of "numeral_of" = true)
    (fk_numeral_of : PySem.W.keepIn K (.ref f_numeral_of) = true)
    (fa_write : PySem.W.nsIn K mainGlobals "write" = some (some (.ref f_write)))
    (fl_write : K.lookup f_write = some ⟨oc_write, od_write, .func (PySem.W.fnOf "write" "write" (defArgs s_growing_write) (defBody s_growing_write) (defScope s_growing_write) .none kV_write doc_write pm_write an_write cdv_write ct_write), osl_write⟩)
    (fc_write : PySem.W.codeIn K cdv_write "write" = true)
    (fk_write : PySem.W.keepIn K (.ref f_write) = true)
    (fa_worth_of : PySem.W.nsIn K mainGlobals "worth_of" = some (some (.ref f_worth_of)))
    (fl_worth_of : K.lookup f_worth_of = some ⟨oc_worth_of, od_worth_of, .func (PySem.W.fnOf "worth_of" "worth_of" (defArgs s_growing_worth_of) (defBody s_growing_worth_of) (defScope s_growing_worth_of) .none kV_worth_of doc_worth_of pm_worth_of an_worth_of cdv_worth_of ct_worth_of), osl_worth_of⟩)
    (fc_worth_of : PySem.W.codeIn K cdv_worth_of "worth_of" = true)
    (fk_worth_of : PySem.W.keepIn K (.ref f_worth_of) = true)
    (fa_need_figures : PySem.W.nsIn K mainGlobals "need_figures" = some (some (.ref f_need_figures)))
    (fl_need_figures : K.lookup f_need_figures = some ⟨oc_need_figures, od_need_figures, .func (PySem.W.fnOf "need_figures" "need_figures" (defArgs s_growing_need_figures) (defBody s_growing_need_figures) (defScope s_growing_need_figures) .none kV_need_figures doc_need_figures pm_need_figures an_need_figures cdv_need_figures ct_need_figures), osl_need_figures⟩)
    (fc_need_figures : PySem.W.codeIn K cdv_need_figures "need_figures" = true)
    (fk_need_figures : PySem.W.keepIn K (.ref f_need_figures) = true)
    (fa_worth : PySem.W.nsIn K mainGlobals "worth" = some (some (.ref f_worth)))
    (fl_worth : K.lookup f_worth = some ⟨oc_worth, od_worth, .func (PySem.W.fnOf "worth" "worth" (defArgs s_growing_worth) (defBody s_growing_worth) (defScope s_growing_worth) .none kV_worth doc_worth pm_worth an_worth cdv_worth ct_worth), osl_worth⟩)
    (fc_worth : PySem.W.codeIn K cdv_worth "worth" = true)
    (fk_worth : PySem.W.keepIn K (.ref f_worth) = true)
    (fa_read : PySem.W.nsIn K mainGlobals "read" = some (some (.ref f_read)))
    (fl_read : K.lookup f_read = some ⟨oc_read, od_read, .func (PySem.W.fnOf "read" "read" (defArgs s_growing_read) (defBody s_growing_read) (defScope s_growing_read) .none kV_read doc_read pm_read an_read cdv_read ct_read), osl_read⟩)
    (fc_read : PySem.W.codeIn K cdv_read "read" = true)
    (fk_read : PySem.W.keepIn K (.ref f_read) = true)
    (fa_shaped : PySem.W.nsIn K mainGlobals "shaped" = some (some (.ref f_shaped)))
    (fl_shaped : K.lookup f_shaped = some ⟨oc_shaped, od_shaped, .func (PySem.W.fnOf "shaped" "shaped" (defArgs s_growing_shaped) (defBody s_growing_shaped) (defScope s_growing_shaped) .none kV_shaped doc_shaped pm_shaped an_shaped cdv_shaped ct_shaped), osl_shaped⟩)
    (fc_shaped : PySem.W.codeIn K cdv_shaped "shaped" = true)
    (fk_shaped : PySem.W.keepIn K (.ref f_shaped) = true)
    (fa_steps_of : PySem.W.nsIn K mainGlobals "steps_of" = some (some (.ref f_steps_of)))
    (fl_steps_of : K.lookup f_steps_of = some ⟨oc_steps_of, od_steps_of, .func (PySem.W.fnOf "steps_of" "steps_of" (defArgs s_growing_steps_of) (defBody s_growing_steps_of) (defScope s_growing_steps_of) .none kV_steps_of doc_steps_of pm_steps_of an_steps_of cdv_steps_of ct_steps_of), osl_steps_of⟩)
    (fc_steps_of : PySem.W.codeIn K cdv_steps_of "steps_of" = true)
    (fk_steps_of : PySem.W.keepIn K (.ref f_steps_of) = true)
    (fa_behind : PySem.W.nsIn K mainGlobals "behind" = some (some (.ref f_behind)))
    (fl_behind : K.lookup f_behind = some ⟨oc_behind, od_behind, .func (PySem.W.fnOf "behind" "behind" (defArgs s_growing_behind) (defBody s_growing_behind) (defScope s_growing_behind) .none kV_behind doc_behind pm_behind an_behind cdv_behind ct_behind), osl_behind⟩)
    (fc_behind : PySem.W.codeIn K cdv_behind "behind" = true)
    (fk_behind : PySem.W.keepIn K (.ref f_behind) = true)
    (fa__law_cell : PySem.W.nsIn K mainGlobals "_law_cell" = some (some (.ref f__law_cell)))
    (fl__law_cell : K.lookup f__law_cell = some ⟨oc__law_cell, od__law_cell, .func (PySem.W.fnOf "_law_cell" "_law_cell" (defArgs s_law_cell) (defBody s_law_cell) (defScope s_law_cell) .none kV__law_cell doc__law_cell pm__law_cell an__law_cell cdv__law_cell ct__law_cell), osl__law_cell⟩)
    (fc__law_cell : PySem.W.codeIn K cdv__law_cell "_law_cell" = true)
    (fk__law_cell : PySem.W.keepIn K (.ref f__law_cell) = true)
    (fa__law_drawn : PySem.W.nsIn K mainGlobals "_law_drawn" = some (some (.ref f__law_drawn)))
    (fl__law_drawn : K.lookup f__law_drawn = some ⟨oc__law_drawn, od__law_drawn, .func (PySem.W.fnOf "_law_drawn" "_law_drawn" (defArgs s_law_drawn) (defBody s_law_drawn) (defScope s_law_drawn) .none kV__law_drawn doc__law_drawn pm__law_drawn an__law_drawn cdv__law_drawn ct__law_drawn), osl__law_drawn⟩)
    (fc__law_drawn : PySem.W.codeIn K cdv__law_drawn "_law_drawn" = true)
    (fk__law_drawn : PySem.W.keepIn K (.ref f__law_drawn) = true)
    (fa__law_number : PySem.W.nsIn K mainGlobals "_law_number" = some (some (.ref f__law_number)))
    (fl__law_number : K.lookup f__law_number = some ⟨oc__law_number, od__law_number, .func (PySem.W.fnOf "_law_number" "_law_number" (defArgs s_law_number) (defBody s_law_number) (defScope s_law_number) .none kV__law_number doc__law_number pm__law_number an__law_number cdv__law_number ct__law_number), osl__law_number⟩)
    (fc__law_number : PySem.W.codeIn K cdv__law_number "_law_number" = true)
    (fk__law_number : PySem.W.keepIn K (.ref f__law_number) = true)
    (fa__law_row : PySem.W.nsIn K mainGlobals "_law_row" = some (some (.ref f__law_row)))
    (fl__law_row : K.lookup f__law_row = some ⟨oc__law_row, od__law_row, .func (PySem.W.fnOf "_law_row" "_law_row" (defArgs s_law_row) (defBody s_law_row) (defScope s_law_row) .none kV__law_row doc__law_row pm__law_row an__law_row cdv__law_row ct__law_row), osl__law_row⟩)
    (fc__law_row : PySem.W.codeIn K cdv__law_row "_law_row" = true)
    (fk__law_row : PySem.W.keepIn K (.ref f__law_row) = true)
    (fa__law_worth : PySem.W.nsIn K mainGlobals "_law_worth" = some (some (.ref f__law_worth)))
    (fl__law_worth : K.lookup f__law_worth = some ⟨oc__law_worth, od__law_worth, .func (PySem.W.fnOf "_law_worth" "_law_worth" (defArgs s_law_worth) (defBody s_law_worth) (defScope s_law_worth) .none kV__law_worth doc__law_worth pm__law_worth an__law_worth cdv__law_worth ct__law_worth), osl__law_worth⟩)
    (fc__law_worth : PySem.W.codeIn K cdv__law_worth "_law_worth" = true)
    (fk__law_worth : PySem.W.keepIn K (.ref f__law_worth) = true)
    (fa__law_numeral : PySem.W.nsIn K mainGlobals "_law_numeral" = some (some (.ref f__law_numeral)))
    (fl__law_numeral : K.lookup f__law_numeral = some ⟨oc__law_numeral, od__law_numeral, .func (PySem.W.fnOf "_law_numeral" "_law_numeral" (defArgs s_law_numeral) (defBody s_law_numeral) (defScope s_law_numeral) .none kV__law_numeral doc__law_numeral pm__law_numeral an__law_numeral cdv__law_numeral ct__law_numeral), osl__law_numeral⟩)
    (fc__law_numeral : PySem.W.codeIn K cdv__law_numeral "_law_numeral" = true)
    (fk__law_numeral : PySem.W.keepIn K (.ref f__law_numeral) = true)
    (fa__law_steps : PySem.W.nsIn K mainGlobals "_law_steps" = some (some (.ref f__law_steps)))
    (fl__law_steps : K.lookup f__law_steps = some ⟨oc__law_steps, od__law_steps, .func (PySem.W.fnOf "_law_steps" "_law_steps" (defArgs s_law_steps) (defBody s_law_steps) (defScope s_law_steps) .none kV__law_steps doc__law_steps pm__law_steps an__law_steps cdv__law_steps ct__law_steps), osl__law_steps⟩)
    (fc__law_steps : PySem.W.codeIn K cdv__law_steps "_law_steps" = true)
    (fk__law_steps : PySem.W.keepIn K (.ref f__law_steps) = true)
    (fa_law : PySem.W.nsIn K mainGlobals "law" = some (some (.ref f_law)))
    (fl_law : K.lookup f_law = some ⟨oc_law, od_law, .func (PySem.W.fnOf "law" "law" (defArgs s_law_law) (defBody s_law_law) (defScope s_law_law) .none kV_law doc_law pm_law an_law cdv_law ct_law), osl_law⟩)
    (fc_law : PySem.W.codeIn K cdv_law "law" = true)
    (fk_law : PySem.W.keepIn K (.ref f_law) = true) :
    ∃ fd : FuncData, (∀ (s : Shared) (u : Value), BindsTo s fd ⟨[u], []⟩ [("_law_script", u)]) ∧ ∀ base : Heap, K.In base → base.Ns mainGlobals mg → FnOk P w K mg base (L2N.CX P w) 6 fa fd ["_law_script"] (spTop K 63) := by
  have F : ∀ base : Heap, Facts ⟨P, w, K, mg, base, [], (fun j => match j with | 0 => C_NumeralError | 1 => C_BadNumber | 3 => C_BadNumeral | _ => 0)⟩ := fun base => {
    z_all := PySem.W.mg_none_of X G z_all
    z_bool := PySem.W.mg_none_of X G z_bool
    z_int := PySem.W.mg_none_of X G z_int
    z_isinstance := PySem.W.mg_none_of X G z_isinstance
    z_len := PySem.W.mg_none_of X G z_len
    z_list := PySem.W.mg_none_of X G z_list
    z_max := PySem.W.mg_none_of X G z_max
    z_min := PySem.W.mg_none_of X G z_min
    z_range := PySem.W.mg_none_of X G z_range
    z_str := PySem.W.mg_none_of X G z_str
    z_sum := PySem.W.mg_none_of X G z_sum
    z_zip := PySem.W.mg_none_of X G z_zip
    g_MOST := ⟨t_MOST, PySem.W.mg_of X G g_MOST⟩
    g_MOST_SIGNS := ⟨t_MOST_SIGNS, PySem.W.mg_of X G g_MOST_SIGNS⟩
    x_NumeralError := fact_cls X G xa_NumeralError xi_NumeralError xk_NumeralError xb_NumeralError xt_NumeralError
    x_BadNumber := fact_cls X G xa_BadNumber xi_BadNumber xk_BadNumber xb_BadNumber xt_BadNumber
    x_BadNumeral := fact_cls X G xa_BadNumeral xi_BadNumeral xk_BadNumeral xb_BadNumeral xt_BadNumeral
    f_is_count := fact_fn X G fa_is_count fl_is_count fc_is_count fk_is_count fun _ _ _ _ _ _ us hl => match us, hl with | [_, _, _], _ => rfl
    f_need_number := fact_fn X G fa_need_number fl_need_number fc_need_number fk_need_number fun _ _ _ _ _ _ us hl => match us, hl with | [_, _, _], _ => rfl
    f_row_to := fact_fn X G fa_row_to fl_row_to fc_row_to fk_row_to fun _ _ _ _ _ _ us hl => match us, hl with | [_], _ => rfl
    f_numeral_of := fact_fn X G fa_numeral_of fl_numeral_of fc_numeral_of fk_numeral_of fun _ _ _ _ _ _ us hl => match us, hl with | [_], _ => rfl
    f_write := fact_fn X G fa_write fl_write fc_write fk_write fun _ _ _ _ _ _ us hl => match us, hl with | [_], _ => rfl
    f_worth_of := fact_fn X G fa_worth_of fl_worth_of fc_worth_of fk_worth_of fun _ _ _ _ _ _ us hl => match us, hl with | [_], _ => rfl
    f_need_figures := fact_fn X G fa_need_figures fl_need_figures fc_need_figures fk_need_figures fun _ _ _ _ _ _ us hl => match us, hl with | [_], _ => rfl
    f_worth := fact_fn X G fa_worth fl_worth fc_worth fk_worth fun _ _ _ _ _ _ us hl => match us, hl with | [_], _ => rfl
    f_read := fact_fn X G fa_read fl_read fc_read fk_read fun _ _ _ _ _ _ us hl => match us, hl with | [_], _ => rfl
    f_shaped := fact_fn X G fa_shaped fl_shaped fc_shaped fk_shaped fun _ _ _ _ _ _ us hl => match us, hl with | [_], _ => rfl
    f_steps_of := fact_fn X G fa_steps_of fl_steps_of fc_steps_of fk_steps_of fun _ _ _ _ _ _ us hl => match us, hl with | [_], _ => rfl
    f_behind := fact_fn X G fa_behind fl_behind fc_behind fk_behind fun _ _ _ _ _ _ us hl => match us, hl with | [_], _ => rfl
    f__law_cell := fact_fn X G fa__law_cell fl__law_cell fc__law_cell fk__law_cell fun _ _ _ _ _ _ us hl => match us, hl with | [_, _], _ => rfl
    f__law_drawn := fact_fn X G fa__law_drawn fl__law_drawn fc__law_drawn fk__law_drawn fun _ _ _ _ _ _ us hl => match us, hl with | [_, _], _ => rfl
    f__law_number := fact_fn X G fa__law_number fl__law_number fc__law_number fk__law_number fun _ _ _ _ _ _ us hl => match us, hl with | [_], _ => rfl
    f__law_row := fact_fn X G fa__law_row fl__law_row fc__law_row fk__law_row fun _ _ _ _ _ _ us hl => match us, hl with | [_], _ => rfl
    f__law_worth := fact_fn X G fa__law_worth fl__law_worth fc__law_worth fk__law_worth fun _ _ _ _ _ _ us hl => match us, hl with | [_], _ => rfl
    f__law_numeral := fact_fn X G fa__law_numeral fl__law_numeral fc__law_numeral fk__law_numeral fun _ _ _ _ _ _ us hl => match us, hl with | [_], _ => rfl
    f__law_steps := fact_fn X G fa__law_steps fl__law_steps fc__law_steps fk__law_steps fun _ _ _ _ _ _ us hl => match us, hl with | [_], _ => rfl
    f_law := fact_fn X G fa_law fl_law fc_law fk_law fun _ _ _ _ _ _ us hl => match us, hl with | [_], _ => rfl }
  exact top_F (base₀ := h) hfa (F h).f_law sc_law_law (fun base => b_law_law (F base)) hlaw
end NB.R_k50
end

section
set_option Elab.async false
set_option linter.all false
theorem NB.R_k50.law_true : ∀ ns : List Int, ns.length ≤ 63 → NB.law_law [.fzl (ns.map .int)] = .ok (.bl true) := NB.law_true
open PySem PySem.W PyProof.Rows L2
set_option maxRecDepth 100000 in
set_option maxHeartbeats 0 in
theorem PySem.Challenge.cw_numeralbook_k50_whole_growing_holds : PySem.Challenge.rw_numeralbook_k50_whole_growing.Holds := by
  w_on; o_law; k_head; (case hw => w_witness2)
  k_fill
  refine L2.walk_of (l := PySem.Challenge.rw_numeralbook_k50_whole_growing) (n := 63) (k := 6) (x := "_law_script") (CX := fun w => L2N.CX PySem.Challenge.pw_numeralbook_k50_whole_growing w) (sp := fun w => NB.spTop _ 63) rfl (by decide) rfl ⟨rfl, by decide, by decide⟩ (fun w h Y => PySem.W.kIn_of Y) ?F (fun _ _ a ns hl hO hS => ⟨a, ns, rfl, hl, hO, hS, fun _ _ e => e⟩) (fun _ _ _ _ _ h => NB.cx_end h)
  case F =>
    intro w mg fa h KX G hmg
    refine' NB.R_k50.end_mk KX G hmg NB.R_k50.law_true ?z_all ?z_bool ?z_int ?z_isinstance ?z_len ?z_list ?z_max ?z_min ?z_range ?z_str ?z_sum ?z_zip ?g_MOST ?g_MOST_SIGNS ?xa_NumeralError ?xi_NumeralError ?xk_NumeralError ?xb_NumeralError ?xt_NumeralError ?xa_BadNumber ?xi_BadNumber ?xk_BadNumber ?xb_BadNumber ?xt_BadNumber ?xa_BadNumeral ?xi_BadNumeral ?xk_BadNumeral ?xb_BadNumeral ?xt_BadNumeral ?fa_is_count ?fl_is_count ?fc_is_count ?fk_is_count ?fa_need_number ?fl_need_number ?fc_need_number ?fk_need_number ?fa_row_to ?fl_row_to ?fc_row_to ?fk_row_to ?fa_numeral_of ?fl_numeral_of ?fc_numeral_of ?fk_numeral_of ?fa_write ?fl_write ?fc_write ?fk_write ?fa_worth_of ?fl_worth_of ?fc_worth_of ?fk_worth_of ?fa_need_figures ?fl_need_figures ?fc_need_figures ?fk_need_figures ?fa_worth ?fl_worth ?fc_worth ?fk_worth ?fa_read ?fl_read ?fc_read ?fk_read ?fa_shaped ?fl_shaped ?fc_shaped ?fk_shaped ?fa_steps_of ?fl_steps_of ?fc_steps_of ?fk_steps_of ?fa_behind ?fl_behind ?fc_behind ?fk_behind ?fa__law_cell ?fl__law_cell ?fc__law_cell ?fk__law_cell ?fa__law_drawn ?fl__law_drawn ?fc__law_drawn ?fk__law_drawn ?fa__law_number ?fl__law_number ?fc__law_number ?fk__law_number ?fa__law_row ?fl__law_row ?fc__law_row ?fk__law_row ?fa__law_worth ?fl__law_worth ?fc__law_worth ?fk__law_worth ?fa__law_numeral ?fl__law_numeral ?fc__law_numeral ?fk__law_numeral ?fa__law_steps ?fl__law_steps ?fc__law_steps ?fk__law_steps ?fa_law ?fl_law ?fc_law ?fk_law
    (case z_all => k_is); (case z_bool => k_is); (case z_int => k_is); (case z_isinstance => k_is); (case z_len => k_is); (case z_list => k_is); (case z_max => k_is); (case z_min => k_is); (case z_range => k_is); (case z_str => k_is); (case z_sum => k_is); (case z_zip => k_is); (case g_MOST => k_is); (case g_MOST_SIGNS => k_is); (case xa_NumeralError => k_is); (case xi_NumeralError => k_exc); (case xk_NumeralError => k_is); (case xb_NumeralError => k_is); (case xt_NumeralError => k_is); (case xa_BadNumber => k_is); (case xi_BadNumber => k_exc); (case xk_BadNumber => k_is); (case xb_BadNumber => k_is); (case xt_BadNumber => k_is); (case xa_BadNumeral => k_is); (case xi_BadNumeral => k_exc); (case xk_BadNumeral => k_is); (case xb_BadNumeral => k_is); (case xt_BadNumeral => k_is); (case fa_is_count => k_is); (case fl_is_count => k_is); (case fc_is_count => k_is); (case fk_is_count => k_is); (case fa_need_number => k_is); (case fl_need_number => k_is); (case fc_need_number => k_is); (case fk_need_number => k_is); (case fa_row_to => k_is); (case fl_row_to => k_is); (case fc_row_to => k_is); (case fk_row_to => k_is); (case fa_numeral_of => k_is); (case fl_numeral_of => k_is); (case fc_numeral_of => k_is); (case fk_numeral_of => k_is); (case fa_write => k_is); (case fl_write => k_is); (case fc_write => k_is); (case fk_write => k_is); (case fa_worth_of => k_is); (case fl_worth_of => k_is); (case fc_worth_of => k_is); (case fk_worth_of => k_is); (case fa_need_figures => k_is); (case fl_need_figures => k_is); (case fc_need_figures => k_is); (case fk_need_figures => k_is); (case fa_worth => k_is); (case fl_worth => k_is); (case fc_worth => k_is); (case fk_worth => k_is); (case fa_read => k_is); (case fl_read => k_is); (case fc_read => k_is); (case fk_read => k_is); (case fa_shaped => k_is); (case fl_shaped => k_is); (case fc_shaped => k_is); (case fk_shaped => k_is); (case fa_steps_of => k_is); (case fl_steps_of => k_is); (case fc_steps_of => k_is); (case fk_steps_of => k_is); (case fa_behind => k_is); (case fl_behind => k_is); (case fc_behind => k_is); (case fk_behind => k_is); (case fa__law_cell => k_is); (case fl__law_cell => k_is); (case fc__law_cell => k_is); (case fk__law_cell => k_is); (case fa__law_drawn => k_is); (case fl__law_drawn => k_is); (case fc__law_drawn => k_is); (case fk__law_drawn => k_is); (case fa__law_number => k_is); (case fl__law_number => k_is); (case fc__law_number => k_is); (case fk__law_number => k_is); (case fa__law_row => k_is); (case fl__law_row => k_is); (case fc__law_row => k_is); (case fk__law_row => k_is); (case fa__law_worth => k_is); (case fl__law_worth => k_is); (case fc__law_worth => k_is); (case fk__law_worth => k_is); (case fa__law_numeral => k_is); (case fl__law_numeral => k_is); (case fc__law_numeral => k_is); (case fk__law_numeral => k_is); (case fa__law_steps => k_is); (case fl__law_steps => k_is); (case fc__law_steps => k_is); (case fk__law_steps => k_is); (case fa_law => k_is); (case fl_law => k_is); (case fc_law => k_is); (case fk_law => k_is)
end
