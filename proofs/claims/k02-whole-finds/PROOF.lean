import PyProof.Rows.All
import Wide.All
import OpenK.AllK
import Wide.FinOn
import HandS.ForMost
import HandS.ForExc
import HandS.IsInst
import KE.DataEq
import HandS.TupAny
import HandS.TupLe
import HandS.Style
import HandS.Deep
import HandS.Text
import HandS.Conv
import HandS.CallSlots
import HandS.Dict
import HandS.Iter
import KE.GoesEnum
import PySem.Challenge.RW_wordfinds_k02_whole_finds
/-! # Den: the plain side. A small semantics of the fragment of Python that the program and the laws use:
data D, a store of mutable objects, outcomes, and one combinator for each construct. No library is imported. -/
namespace WF

/-- a text: its code points -/
abbrev Cs := List Nat

/-- data: `lst` a list that nobody changes, `loc n` the n-th mutable object of the store, `fn k caps` a function value, `exc c` a caught exception -/
inductive D where
  | non
  | bl (b : Bool)
  | int (i : Int)
  | str (s : Cs)
  | tup (ds : List D)
  | lst (ds : List D)
  | loc (n : Nat)
  | fn (k : Nat) (caps : List D)
  | exc (c : Nat)
deriving Inhabited

/-- a mutable object -/
inductive MO where
  | lst (ds : List D)
  | dict (kvs : List (D × D))
  | inst (c : Nat) (fs : List (Cs × D))
deriving Inhabited

abbrev Store := List MO

/-- the largest length of a list or text -/
abbrev lim : Nat := 16777216

inductive Res (α : Type) where
  | ok (a : α) (S : Store)
  | ex (c : Nat) (S : Store)
  | un

namespace Res
variable {α β γ : Type}
def bind (x : Res α) (f : α → Store → Res β) : Res β := match x with
  | ok a S => f a S
  | ex c S => ex c S
  | un => un
@[simp] theorem ok_bind (a : α) (S : Store) (f : α → Store → Res β) : (ok a S).bind f = f a S := rfl
@[simp] theorem ex_bind (c : Nat) (S : Store) (f : α → Store → Res β) : (ex c S : Res α).bind f = ex c S := rfl
@[simp] theorem un_bind (f : α → Store → Res β) : (un : Res α).bind f = un := rfl
/-- an exception is not provided for -/
def noex (x : Res α) : Res α := match x with
  | ok a S => ok a S
  | ex _ _ => un
  | un => un
@[simp] theorem ok_noex (a : α) (S : Store) : (ok a S).noex = ok a S := rfl
@[simp] theorem ex_noex (c : Nat) (S : Store) : (ex c S : Res α).noex = un := rfl
@[simp] theorem un_noex : (un : Res α).noex = un := rfl
theorem bind_assoc (x : Res α) (f : α → Store → Res β) (g : β → Store → Res γ) : (x.bind f).bind g = x.bind fun a S => (f a S).bind g := by
  cases x <;> rfl
end Res

abbrev M (α : Type) := Store → Res α
abbrev Env := List (Option D)
abbrev FE := Env → M D
abbrev FT := Env → M Bool

inductive Ctl where
  | next (ρ : Env)
  | ret (d : D)
  | brk (ρ : Env)
  | cnt (ρ : Env)

abbrev FS := Env → M Ctl
abbrev FG := D → Env → M Env
/-- what is walked: the items, and the mutable list that must stay as it is meanwhile -/
abbrev FI := Env → M (List D × Option Nat)
/-- a def's denotation -/
abbrev FF := List D → M D

/-! ### equality of data -/
mutual
def D.eqv : D → D → Bool
  | .non, .non => true
  | .bl a, .bl b => a == b
  | .bl a, .int j => (if a then 1 else 0) == j
  | .int i, .bl b => i == (if b then 1 else 0)
  | .int i, .int j => i == j
  | .str x, .str y => x == y
  | .lst xs, .lst ys => D.eqvs xs ys
  | .tup xs, .tup ys => D.eqvs xs ys
  | _, _ => false
def D.eqvs : List D → List D → Bool
  | [], [] => true
  | x :: xs, y :: ys => D.eqv x y && D.eqvs xs ys
  | _, _ => false
end
mutual
/-- no mutable object, function or exception lies within -/
def D.plain : D → Bool
  | .non | .bl _ | .int _ | .str _ => true
  | .tup ds | .lst ds => D.plains ds
  | _ => false
def D.plains : List D → Bool
  | [] => true
  | x :: xs => D.plain x && D.plains xs
end
mutual
def D.depth : D → Nat
  | .tup ds | .lst ds => D.depths ds + 1
  | _ => 0
def D.depths : List D → Nat
  | [] => 0
  | x :: xs => max (D.depth x) (D.depths xs)
end

/-- a mutable list is read at the store -/
def res (S : Store) (d : D) : D := match d with
  | .loc n => match S[n]? with
    | some (.lst ds) => .lst ds
    | _ => .loc n
  | d => d

/-! ### operations on values -/
def gEq (a b : D) : M D := fun S =>
  let x := res S a
  let y := res S b
  if (x.plain && y.plain && decide (min x.depth y.depth ≤ 60)) = true then .ok (.bl (x.eqv y)) S else .un
def gNe (a b : D) : M D := fun S => (gEq a b S).bind fun d S => match d with
  | .bl c => .ok (.bl (!c)) S
  | _ => .un

def rep {α : Type} (n : Nat) (xs : List α) : List α := (List.replicate n xs).flatten

def gAdd (a b : D) : M D := fun S => match a, b with
  | .int i, .int j => .ok (.int (i + j)) S
  | .int i, .bl k => .ok (.int (i + if k then 1 else 0)) S
  | .str s, .str t => if s.length + t.length ≤ lim then .ok (.str (s ++ t)) S else .un
  | .tup xs, .tup ys => if xs.length + ys.length ≤ lim then .ok (.tup (xs ++ ys)) S else .un
  | .lst xs, .lst ys => if xs.length + ys.length ≤ lim then .ok (.lst (xs ++ ys)) S else .un
  | _, _ => .un
def gAddI (a b : D) : M D := fun S => match a, b with
  | .int i, .int j => .ok (.int (i + j)) S
  | _, _ => .un
def gSub (a b : D) : M D := fun S => match a, b with
  | .int i, .int j => .ok (.int (i - j)) S
  | _, _ => .un
abbrev two64 : Int := 18446744073709551616
def gMul (a b : D) : M D := fun S => match a, b with
  | .int i, .int j => if (-two64 < i ∧ i < two64) ∨ (-two64 < j ∧ j < two64) then .ok (.int (i * j)) S else .un
  | _, _ => .un
/-- a text, a tuple, a list times an int -/
def gRep (a b : D) : M D := fun S => match a, b with
  | .str s, .int j => if 0 ≤ j ∧ j ≤ 1000 ∧ s.length ≤ 1000 then .ok (.str (rep j.toNat s)) S else .un
  | .tup s, .int j => if 2 ≤ j ∧ j ≤ 1000 ∧ s.isEmpty = false ∧ s.length ≤ 1000 then .ok (.tup (rep j.toNat s)) S else .un
  | .lst s, .int j => if 0 ≤ j ∧ j ≤ 1000 ∧ s.length ≤ 1000 then .ok (.lst (rep j.toNat s)) S else .un
  | _, _ => .un
def gFdiv (a b : D) : M D := fun S => match a, b with
  | .int i, .int j => if j ≠ 0 ∧ j.natAbs < 1073741824 then .ok (.int (i.fdiv j)) S else .un
  | _, _ => .un
def gMod (a b : D) : M D := fun S => match a, b with
  | .int i, .int j => if j ≠ 0 then .ok (.int (i.fmod j)) S else .un
  | _, _ => .un
def gPow (a b : D) : M D := fun S => match a, b with
  | .int i, .int j => if 0 ≤ j ∧ j ≤ 1000 ∧ i.natAbs < 18446744073709551616 then .ok (.int (i ^ j.toNat)) S else .un
  | _, _ => .un

def gNeg (a : D) : M D := fun S => match a with
  | .int i => .ok (.int (-i)) S
  | _ => .un

/-- the order of texts -/
def ltCs : Cs → Cs → Bool
  | [], [] => false
  | [], _ :: _ => true
  | _ :: _, [] => false
  | x :: xs, y :: ys => if x < y then true else if x = y then ltCs xs ys else false

def gLt (a b : D) : M D := fun S => match a, b with
  | .int i, .int j => .ok (.bl (decide (i < j))) S
  | _, _ => .un
def gLe (a b : D) : M D := fun S => match a, b with
  | .int i, .int j => .ok (.bl (decide (i ≤ j))) S
  | _, _ => .un
def gGt (a b : D) : M D := fun S => match a, b with
  | .int i, .int j => .ok (.bl (decide (j < i))) S
  | _, _ => .un
def gGe (a b : D) : M D := fun S => match a, b with
  | .int i, .int j => .ok (.bl (decide (j ≤ i))) S
  | _, _ => .un
def D.isNon : D → Bool
  | .non => true
  | _ => false
def D.isBl (k : Bool) : D → Bool
  | .bl b => b == k
  | _ => false
def gIsNon (a : D) : M D := fun S => .ok (.bl a.isNon) S
def gNotNon (a : D) : M D := fun S => .ok (.bl (!a.isNon)) S

/-- the one text within the other -/
def subIn (v : Cs) : Cs → Bool
  | [] => v.isEmpty
  | c :: t => v.isPrefixOf (c :: t) || subIn v t

def gIn (a b : D) : M D := fun S =>
  let x := res S a
  match x, res S b with
  | .str v, .str t => .ok (.bl (subIn v t)) S
  | x, .tup ds => if (x.plain && D.plains ds && decide (x.depth ≤ 60)) = true then .ok (.bl (ds.any fun y => y.eqv x)) S else .un
  | x, .lst ds => if (x.plain && D.plains ds && decide (x.depth ≤ 60)) = true then .ok (.bl (ds.any fun y => y.eqv x)) S else .un
  | _, _ => .un
def gNotIn (a b : D) : M D := fun S => (gIn a b S).bind fun d S => match d with
  | .bl c => .ok (.bl (!c)) S
  | _ => .un

/-- an index of any sign -/
def ixN (n : Nat) (i : Int) : Option Nat := if 0 ≤ i then (if i < n then some i.toNat else none) else if -(n : Int) ≤ i then some (i + n).toNat else none
def atI {α : Type} (xs : List α) (i : Int) : Option α := (ixN xs.length i).bind fun j => xs[j]?

def gIdx (a b : D) : M D := fun S => match res S a, b with
  | .tup ds, .int i => match atI ds i with
    | some d => .ok d S
    | none => .un
  | .lst ds, .int i => match atI ds i with
    | some d => .ok d S
    | none => .un
  | .str s, .int i => if s.length ≤ lim then (match atI s i with
    | some c => .ok (.str [c]) S
    | none => .un) else .un
  | _, _ => .un

/-- the bounds of a slice -/
def sIx (n d : Nat) : Option Int → Nat
  | none => d
  | some i => if i < 0 then (i + n).toNat else min i.toNat n
def cut {α : Type} (xs : List α) (lo hi : Option Int) : List α := (xs.drop (sIx xs.length 0 lo)).take (sIx xs.length xs.length hi - sIx xs.length 0 lo)

def gSlice (a : D) (lo hi : Option Int) : M D := fun S => match res S a with
  | .tup ds => .ok (.tup (cut ds lo hi)) S
  | .lst ds => .ok (.lst (cut ds lo hi)) S
  | .str s => if s.length ≤ lim then .ok (.str (cut s lo hi)) S else .un
  | _ => .un

/-! ### built-in functions -/
def bLen (a : D) : M D := fun S => match res S a with
  | .tup ds => .ok (.int ds.length) S
  | .lst ds => .ok (.int ds.length) S
  | .str s => if s.length ≤ lim then .ok (.int s.length) S else .un
  | _ => .un

/-- the built-in classes that isinstance is asked of -/
inductive Ty where
  | int | bool | str | tuple
deriving DecidableEq
def isTy : Ty → D → Option Bool
  | .int, .int _ => some true
  | .int, .bl _ => some true
  | .bool, .bl _ => some true
  | .str, .str _ => some true
  | .tuple, .tup _ => some true
  | _, .non => some false
  | _, .bl _ => some false
  | _, .int _ => some false
  | _, .str _ => some false
  | _, .tup _ => some false
  | _, .lst _ => some false
  | _, _ => none
def bIsi (t : Ty) (a : D) : M D := fun S => match isTy t (res S a) with
  | some b => .ok (.bl b) S
  | none => .un

def boolsOf : List D → Option (List Bool)
  | [] => some []
  | .bl b :: r => (boolsOf r).map (b :: ·)
  | _ => none
def intsOf : List D → Option (List Int)
  | [] => some []
  | .int b :: r => (intsOf r).map (b :: ·)
  | _ => none
def strsOf : List D → Option (List Cs)
  | [] => some []
  | .str b :: r => (strsOf r).map (b :: ·)
  | _ => none
/-- the items of a list, mutable or not -/
def lstOf (S : Store) (d : D) : Option (List D) := match res S d with
  | .lst ds => some ds
  | _ => none
def bAll (a : D) : M D := fun S => match (lstOf S a).bind boolsOf with
  | some bs => .ok (.bl (bs.all id)) S
  | none => .un
def bAny (a : D) : M D := fun S => match (lstOf S a).bind boolsOf with
  | some bs => .ok (.bl (bs.any id)) S
  | none => .un
def bSum (a : D) : M D := fun S => match (lstOf S a).bind intsOf with
  | some bs => .ok (.int bs.sum) S
  | none => .un
def maxL : List Int → Option Int
  | [] => none
  | x :: xs => some (xs.foldl (fun a b => if a < b then b else a) x)
def bMax (a : D) : M D := fun S => match ((lstOf S a).bind intsOf).bind maxL with
  | some m => .ok (.int m) S
  | none => .un
def bMax2 (a b : D) : M D := fun S => match a, b with
  | .int i, .int j => .ok (.int (if i < j then j else i)) S
  | _, _ => .un
def bMin2 (a b : D) : M D := fun S => match a, b with
  | .int i, .int j => .ok (.int (if j < i then j else i)) S
  | _, _ => .un
def bTuple (a : D) : M D := fun S => match res S a with
  | .lst ds => .ok (.tup ds) S
  | .tup ds => .ok (.tup ds) S
  | _ => .un
def bList (a : D) : M D := fun S => match res S a with
  | .lst ds => .ok (.lst ds) S
  | .tup ds => .ok (.lst ds) S
  | _ => .un
/-- texts with a text between -/
def joinCs (sep : Cs) : List Cs → Cs
  | [] => []
  | [x] => x
  | x :: y :: xs => x ++ (sep ++ joinCs sep (y :: xs))
def joinLen (sep : Cs) (xs : List Cs) : Nat := (xs.map List.length).sum + sep.length * xs.length
def bJoin (sep a : D) : M D := fun S => match sep, (lstOf S a).bind strsOf with
  | .str s, some xs => if xs.length ≤ lim ∧ joinLen s xs ≤ lim then .ok (.str (joinCs s xs)) S else .un
  | _, _ => .un
/-- how often a text of one sign stands in a text -/
def bCount (a b : D) : M D := fun S => match a, b with
  | .str t, .str [c] => .ok (.int (t.count c)) S
  | _, _ => .un

/-- functions of one, of two values as functions of an argument list -/
def f1 (g : D → M D) : FF := fun ds S => match ds with
  | [a] => g a S
  | _ => .un
def f2 (g : D → D → M D) : FF := fun ds S => match ds with
  | [a, b] => g a b S
  | _ => .un

/-! ### expressions -/
def dVar (i : Nat) : FE := fun ρ S => match ρ[i]? with
  | some (some d) => .ok d S
  | _ => .un
def dC (d : D) : FE := fun _ S => .ok d S
def dUn (g : D → M D) (a : FE) : FE := fun ρ S => (a ρ S).bind g
def dBin (g : D → D → M D) (a b : FE) : FE := fun ρ S => (a ρ S).bind fun x S1 => (b ρ S1).bind fun y S2 => g x y S2
/-- a text's method of one argument -/
def dStrM (g : D → D → M D) (a b : FE) : FE := fun ρ S => (a ρ S).bind fun x S1 => match x with
  | .str s => (b ρ S1).bind fun y S2 => g (.str s) y S2
  | _ => .un
/-- and, or, not as values, by truth values -/
def dAnd (a b : FE) : FE := fun ρ S => (a ρ S).bind fun x S1 => match x with
  | .bl true => b ρ S1
  | .bl false => .ok (.bl false) S1
  | _ => .un
def dOr (a b : FE) : FE := fun ρ S => (a ρ S).bind fun x S1 => match x with
  | .bl false => b ρ S1
  | .bl true => .ok (.bl true) S1
  | _ => .un
def dNot (a : FE) : FE := fun ρ S => (a ρ S).bind fun x S1 => match x with
  | .bl b => .ok (.bl (!b)) S1
  | _ => .un
def dIf (t : FT) (a b : FE) : FE := fun ρ S => (t ρ S).bind fun c S1 => if c = true then a ρ S1 else b ρ S1
/-- a op1 b op2 c -/
def dChain (g g' : D → D → M D) (a b c : FE) : FE := fun ρ S => (a ρ S).bind fun x S1 => (b ρ S1).bind fun y S2 => (g x y S2).bind fun z S3 => match z with
  | .bl true => (c ρ S3).bind fun u S4 => g' y u S4
  | .bl false => .ok (.bl false) S3
  | _ => .un
def evalAll : List FE → Env → M (List D)
  | [], _, S => .ok [] S
  | a :: r, ρ, S => (a ρ S).bind fun x S1 => (evalAll r ρ S1).bind fun xs S2 => .ok (x :: xs) S2
def dTup (as : List FE) : FE := fun ρ S => (evalAll as ρ S).bind fun ds S1 => .ok (.tup ds) S1
def dLst (as : List FE) : FE := fun ρ S => (evalAll as ρ S).bind fun ds S1 => .ok (.lst ds) S1
/-- a list that will be changed -/
def dNew (as : List FE) : FE := fun ρ S => (evalAll as ρ S).bind fun ds S1 => .ok (.loc S1.length) (S1 ++ [.lst ds])
/-- a new list that will be changed, made by an expression of another kind -/
def dMut (a : FE) : FE := fun ρ S => (a ρ S).bind fun d S1 => match d with
  | .lst ds => .ok (.loc S1.length) (S1 ++ [.lst ds])
  | _ => .un
/-- a list and a list together, a new list that will be changed -/
def dCatNew (a b : FE) : FE := fun ρ S => (a ρ S).bind fun x S1 => (b ρ S1).bind fun y S2 => match x, y with
  | .lst xs, .lst ys => if xs.length + ys.length ≤ lim then .ok (.loc S2.length) (S2 ++ [.lst (xs ++ ys)]) else .un
  | _, _ => .un
def dCall (f : FF) (as : List FE) : FE := fun ρ S => (evalAll as ρ S).bind f
def dPart (a : FE) : Env → M (Option Int) := fun ρ S => (a ρ S).bind fun d S1 => match d with
  | .int i => .ok (some i) S1
  | _ => .un
def dNoPart : Env → M (Option Int) := fun _ S => .ok none S
def dSlice (a : FE) (lo hi : Env → M (Option Int)) : FE := fun ρ S => (a ρ S).bind fun x S1 => (lo ρ S1).bind fun l S2 => (hi ρ S2).bind fun h S3 => gSlice x l h S3
/-- {k: v, ..}[e], the keys written texts -/
def dPick (ks : List Cs) (vs : List FE) (e : FE) : FE := fun ρ S => (evalAll vs ρ S).bind fun ds S1 => (e ρ S1).bind fun x S2 => match x with
  | .str s => match (ks.zip ds).lookup s with
    | some d => .ok d S2
    | none => .un
  | _ => .un

/-! ### tests -/
def tVal (a : FE) : FT := fun ρ S => (a ρ S).bind fun x S1 => match x with
  | .bl b => .ok b S1
  | _ => .un
def tAnd (a b : FT) : FT := fun ρ S => (a ρ S).bind fun c S1 => if c = true then b ρ S1 else .ok false S1
def tOr (a b : FT) : FT := fun ρ S => (a ρ S).bind fun c S1 => if c = true then .ok true S1 else b ρ S1
def tNot (a : FT) : FT := fun ρ S => (a ρ S).bind fun c S1 => .ok (!c) S1
def tYes : FT := fun _ S => .ok true S

/-! ### what is walked -/
def signs (s : Cs) : List D := s.map fun c => .str [c]
def iVal (a : FE) : FI := fun ρ S => (a ρ S).bind fun x S1 => match x with
  | .lst ds => .ok (ds, none) S1
  | .tup ds => .ok (ds, none) S1
  | .str s => if s.length ≤ lim then .ok (signs s, none) S1 else .un
  | .loc n => match S1[n]? with
    | some (.lst ds) => .ok (ds, some n) S1
    | _ => .un
  | _ => .un
def rngD (lo : Int) (n : Nat) : List D := (List.range n).map fun (k : Nat) => .int (lo + (k : Int))
def iRange1 (a : FE) : FI := fun ρ S => (a ρ S).bind fun x S1 => match x with
  | .int n => if -16777216 ≤ n ∧ n ≤ 16777216 then .ok (rngD 0 n.toNat, none) S1 else .un
  | _ => .un
def iRange2 (a b : FE) : FI := fun ρ S => (a ρ S).bind fun x S1 => (b ρ S1).bind fun y S2 => match x, y with
  | .int m, .int n => if -16777216 ≤ m ∧ m ≤ 16777216 ∧ -16777216 ≤ n ∧ n ≤ 16777216 ∧ n - m ≤ 16777216 then .ok (rngD m (n - m).toNat, none) S2 else .un
  | _, _ => .un
def enumFrom : Nat → List D → List D
  | _, [] => []
  | k, d :: ds => .tup [.int (k : Int), d] :: enumFrom (k + 1) ds
/-- enumerate(a text) -/
def iEnum (a : FE) : FI := fun ρ S => (a ρ S).bind fun x S1 => match x with
  | .str s => if s.length ≤ lim then .ok (enumFrom 0 (signs s), none) S1 else .un
  | _ => .un
def zipD : List D → List D → List D
  | a :: as, b :: bs => .tup [a, b] :: zipD as bs
  | _, _ => []
/-! ### comprehensions -/
def wipe (ρ : Env) : List Nat → Env
  | [] => ρ
  | v :: vs => (wipe ρ vs).set v none
def compL (g : FG) (vs : List Nat) (t : FT) (e : FE) (ρ : Env) : List D → M (List D)
  | [], S => .ok [] S
  | d :: ds, S => (g d (wipe ρ vs) S).noex.bind fun ρ1 S1 => (t ρ1 S1).noex.bind fun c S2 =>
    if c = true then (e ρ1 S2).noex.bind fun y S3 => (compL g vs t e ρ ds S3).bind fun ys S4 => .ok (y :: ys) S4
    else compL g vs t e ρ ds S2
/-- .. over the mutable list n of length len: k turns are left -/
def compN (g : FG) (vs : List Nat) (t : FT) (e : FE) (ρ : Env) (n len : Nat) : Nat → M (List D)
  | 0, S => match S[n]? with
    | some (.lst es) => if es.length = len then .ok [] S else .un
    | _ => .un
  | k + 1, S => match S[n]? with
    | some (.lst es) => if es.length = len then (match es[len - (k + 1)]? with
      | some d => (g d (wipe ρ vs) S).noex.bind fun ρ1 S1 => (t ρ1 S1).noex.bind fun c S2 =>
        if c = true then (e ρ1 S2).noex.bind fun y S3 => (compN g vs t e ρ n len k S3).bind fun ys S4 => .ok (y :: ys) S4
        else compN g vs t e ρ n len k S2
      | none => .un) else .un
    | _ => .un
def dComp (it : FI) (g : FG) (vs : List Nat) (t : FT) (e : FE) : FE := fun ρ S => (it ρ S).bind fun p S1 =>
  if p.1.length ≤ lim then (match p.2 with
    | none => (compL g vs t e ρ p.1 S1).bind fun ys S2 => .ok (.lst ys) S2
    | some n => (compN g vs t e ρ n p.1.length p.1.length S1).bind fun ys S2 => .ok (.lst ys) S2) else .un

/-! ### targets -/
def gName (i : Nat) : FG := fun d ρ S => .ok (ρ.set i (some d)) S
def gAll : List FG → List D → Env → M Env
  | [], [], ρ, S => .ok ρ S
  | g :: gs, d :: ds, ρ, S => (g d ρ S).bind fun ρ1 S1 => gAll gs ds ρ1 S1
  | _, _, _, _ => .un
def gTup (gs : List FG) : FG := fun d ρ S => match d with
  | .tup ds => if ds.length = gs.length then gAll gs ds ρ S else .un
  | _ => .un
/-- o[i] = .., o a mutable list -/
def setAt (o i v : D) : M Unit := fun S => match o, i with
  | .loc n, .int k => match S[n]? with
    | some (.lst ds) => match ixN ds.length k with
      | some j => .ok () (S.set n (.lst (ds.set j v)))
      | none => .un
    | _ => .un
  | _, _ => .un
def gSubL (o i : FE) : FG := fun d ρ S => (o ρ S).bind fun x S1 => (i ρ S1).bind fun y S2 => (setAt x y d S2).bind fun _ S3 => .ok ρ S3

/-! ### statements -/
def sNil : FS := fun ρ S => .ok (.next ρ) S
def sSeq (a b : FS) : FS := fun ρ S => (a ρ S).bind fun c S1 => match c with
  | .next ρ1 => b ρ1 S1
  | .ret d => .ok (.ret d) S1
  | .brk ρ1 => .ok (.brk ρ1) S1
  | .cnt ρ1 => .ok (.cnt ρ1) S1
def sAsg (a : FE) (g : FG) : FS := fun ρ S => (a ρ S).bind fun d S1 => (g d ρ S1).bind fun ρ1 S2 => .ok (.next ρ1) S2
/-- a, b, .. = x, y, .. with plain local names -/
def setAll : List Nat → List D → Env → Env
  | i :: is, d :: ds, ρ => setAll is ds (ρ.set i (some d))
  | _, _, ρ => ρ
def sPar (is : List Nat) (as : List FE) : FS := fun ρ S => (evalAll as ρ S).bind fun ds S1 => .ok (.next (setAll is ds ρ)) S1
def sAug (g : D → D → M D) (i : Nat) (a : FE) : FS := fun ρ S => match ρ[i]? with
  | some (some x) => (a ρ S).bind fun y S1 => (g x y S1).bind fun z S2 => .ok (.next (ρ.set i (some z))) S2
  | _ => .un
def sExpr (a : FE) : FS := fun ρ S => (a ρ S).bind fun _ S1 => .ok (.next ρ) S1
def sRet (a : FE) : FS := fun ρ S => (a ρ S).bind fun d S1 => .ok (.ret d) S1
def sIf (t : FT) (a b : FS) : FS := fun ρ S => (t ρ S).bind fun c S1 => if c = true then a ρ S1 else b ρ S1
def sBrk : FS := fun ρ S => .ok (.brk ρ) S
def sCnt : FS := fun ρ S => .ok (.cnt ρ) S
def sRaise (c : Nat) : FS := fun _ S => .ex c S
def forL (g : FG) (body : FS) : List D → Env → M Ctl
  | [], ρ, S => .ok (.next ρ) S
  | d :: ds, ρ, S => (g d ρ S).bind fun ρ1 S1 => (body ρ1 S1).bind fun c S2 => match c with
    | .next ρ2 => forL g body ds ρ2 S2
    | .cnt ρ2 => forL g body ds ρ2 S2
    | .brk ρ2 => .ok (.next ρ2) S2
    | .ret d => .ok (.ret d) S2
/-- over the mutable list n of length len (it keeps its length): k turns are left -/
def forN (g : FG) (body : FS) (n len : Nat) : Nat → Env → M Ctl
  | 0, ρ, S => match S[n]? with
    | some (.lst es) => if es.length = len then .ok (.next ρ) S else .un
    | _ => .un
  | k + 1, ρ, S => match S[n]? with
    | some (.lst es) => if es.length = len then (match es[len - (k + 1)]? with
      | some d => (g d ρ S).bind fun ρ1 S1 => (body ρ1 S1).bind fun c S2 => match c with
        | .next ρ2 => forN g body n len k ρ2 S2
        | .cnt ρ2 => forN g body n len k ρ2 S2
        | .brk ρ2 => .ok (.next ρ2) S2
        | .ret d => .ok (.ret d) S2
      | none => .un) else .un
    | _ => .un
def sFor (it : FI) (g : FG) (body : FS) : FS := fun ρ S => (it ρ S).bind fun p S1 => match p.2 with
  | none => forL g body p.1 ρ S1
  | some n => forN g body n p.1.length p.1.length ρ S1
def whileN (t : FT) (body : FS) : Nat → FS
  | 0, _, _ => .un
  | n + 1, ρ, S => (t ρ S).bind fun c S1 => if c = true then (body ρ S1).bind fun k S2 => match k with
    | .next ρ2 => whileN t body n ρ2 S2
    | .cnt ρ2 => whileN t body n ρ2 S2
    | .brk ρ2 => .ok (.next ρ2) S2
    | .ret d => .ok (.ret d) S2 else .ok (.next ρ) S1
/-- a while loop, with a bound on its turns -/
def sWhile (n : Env → Store → Nat) (t : FT) (body : FS) : FS := fun ρ S => whileN t body (n ρ S) ρ S

/-! ### defs -/
def startE (n : Nat) (ds : List D) : Env := ds.map some ++ List.replicate (n - ds.length) none
def runDef (n : Nat) (body : FS) : FF := fun ds S => (body (startE n ds) S).bind fun c S1 => match c with
  | .ret d => .ok d S1
  | .next _ => .ok .non S1
  | _ => .un
def fUn : FF := fun _ _ => .un
/-- how deep a def may call itself -/
@[irreducible] def fuel : Nat := 5
theorem fuel_eq : fuel = 5 := by unfold fuel; rfl
theorem fuel_le {k : Nat} (h : k ≤ 5) : k ≤ fuel := by rw [fuel_eq]; exact h

end WF

set_option Elab.async false
set_option linter.all false
set_option maxRecDepth 100000
set_option maxHeartbeats 4000000
/-! # Found: data over the abstract heap; a def's denotation as its promise -/
namespace WF
open PySem L2

/-- where the store's objects lie; vol: what may change -/
structure Lay where
  loc : List Addr
  vol : Addr → Prop
  sub : ∀ a ∈ loc, vol a

abbrev sv (s : Cs) : PySem.Str := ⟨s.toArray⟩

/-- a list of the module's own -/
def LsK (K : PySem.W.Frag) (a : Addr) (xs : List V) : Prop := ∃ (o : Obj) (its : Array Value) (n : Nat), K.lookup a = some o ∧ o.cls = .type "list" ∧ o.dict = none ∧ o.data = .seq its n ∧ its.size ≤ sizeLine ∧ Vals xs its.toList
mutual
/-- a value shows a datum -/
inductive Rep (K : PySem.W.Frag) (Y : Lay) (H : Hp) : D → V → Prop
  | non : Rep K Y H .non .non
  | bl (b : Bool) : Rep K Y H (.bl b) (.bl b)
  | int (i : Int) : Rep K Y H (.int i) (.int i)
  | str (s : Cs) : Rep K Y H (.str s) (.str (sv s))
  | tup {ds : List D} {a : Addr} {xs : List V} : SqT K H a xs → RepL K Y H ds xs → Rep K Y H (.tup ds) (.ref a)
  | lst {ds : List D} {a : Addr} {xs : List V} : Rd H a (.lst xs) → ¬ Y.vol a → RepL K Y H ds xs → Rep K Y H (.lst ds) (.ref a)
  | lsk {ds : List D} {a : Addr} {xs : List V} : LsK K a xs → RepL K Y H ds xs → Rep K Y H (.lst ds) (.ref a)
  | loc {n : Nat} {a : Addr} : Y.loc[n]? = some a → Rep K Y H (.loc n) (.ref a)
inductive RepL (K : PySem.W.Frag) (Y : Lay) (H : Hp) : List D → List V → Prop
  | nil : RepL K Y H [] []
  | cons {d : D} {ds : List D} {v : V} {vs : List V} : Rep K Y H d v → RepL K Y H ds vs → RepL K Y H (d :: ds) (v :: vs)
end

/-- the later state: nothing but the store's objects has changed -/
structure Ext (Y : Lay) (H : Hp) (Y' : Lay) (H' : Hp) : Prop where
  pre : ∃ more, Y'.loc = Y.loc ++ more
  vol : ∀ a, Y.vol a → Y'.vol a
  keep : ∀ a o, H a = some o → a ∉ Y.loc → H' a = some o
  tups : ∀ a xs, Rd H a (.tup xs) → Rd H' a (.tup xs)
  fresh : ∀ a, Y'.vol a → Y.vol a ∨ H a = none
  newl : ∀ a, a ∈ Y'.loc → a ∈ Y.loc ∨ H a = none
  dom : ∀ a, H' a = none → H a = none

def MOk (K : PySem.W.Frag) (Y : Lay) (H : Hp) (a : Addr) : MO → Prop
  | .lst ds => ∃ xs, H a = some (.lst xs) ∧ RepL K Y H ds xs
  | _ => False

structure Good (K : PySem.W.Frag) (Y : Lay) (S : Store) (H : Hp) : Prop where
  len : Y.loc.length = S.length
  nd : Y.loc.Nodup
  at' : ∀ (n : Nat) (o : MO) (a : Addr), S[n]? = some o → Y.loc[n]? = some a → MOk K Y H a o
  there : ∀ a, Y.vol a → H a ≠ none

theorem Ext.refl {Y : Lay} {H : Hp} : Ext Y H Y H := ⟨⟨[], by simp⟩, fun _ h => h, fun _ _ h _ => h, fun _ _ h => h, fun _ h => .inl h, fun _ h => .inl h, fun _ h => h⟩
theorem Ext.trans {Y Y1 Y2 : Lay} {H H1 H2 : Hp} (a : Ext Y H Y1 H1) (b : Ext Y1 H1 Y2 H2) : Ext Y H Y2 H2 := by
  obtain ⟨m1, e1⟩ := a.pre
  obtain ⟨m2, e2⟩ := b.pre
  refine ⟨⟨m1 ++ m2, by rw [e2, e1, List.append_assoc]⟩, fun x h => b.vol x (a.vol x h), fun x o h hn => ?_, fun x xs h => b.tups x xs (a.tups x xs h), fun x h => ?_, fun x h => ?_, fun x h => a.dom x (b.dom x h)⟩
  · refine b.keep x o (a.keep x o h hn) fun q => ?_
    rcases a.newl x q with z | z
    · exact hn z
    · rw [z] at h; cases h
  · rcases b.fresh x h with z | z
    · exact a.fresh x z
    · exact .inr (a.dom x z)
  · rcases b.newl x h with z | z
    · exact a.newl x z
    · exact .inr (a.dom x z)
/-- what data lean on: the objects that nobody changes -/
structure ExtV (Y : Lay) (H : Hp) (Y' : Lay) (H' : Hp) : Prop where
  pre : ∃ more, Y'.loc = Y.loc ++ more
  keep : ∀ a o, H a = some o → ¬ Y.vol a → H' a = some o
  tups : ∀ a xs, Rd H a (.tup xs) → Rd H' a (.tup xs)
  fresh : ∀ a, Y'.vol a → Y.vol a ∨ H a = none
theorem Ext.v {Y Y' : Lay} {H H' : Hp} (e : Ext Y H Y' H') : ExtV Y H Y' H' := ⟨e.pre, fun a o h n => e.keep a o h fun z => n (Y.sub a z), e.tups, e.fresh⟩
theorem ExtV.rd {Y Y' : Lay} {H H' : Hp} (e : ExtV Y H Y' H') {a : Addr} {u : HO} (h : Rd H a u) (hn : ¬ Y.vol a) : Rd H' a u := by
  rcases h with h | ⟨o, h⟩
  · exact .inl (e.keep a _ h hn)
  · exact .inr ⟨o, e.keep a _ h hn⟩
theorem ExtV.sqt {K : PySem.W.Frag} {Y Y' : Lay} {H H' : Hp} (e : ExtV Y H Y' H') {a : Addr} {xs : List V} (h : SqT K H a xs) : SqT K H' a xs := by
  rcases h with h | h
  · exact .inl (e.tups a xs h)
  · exact .inr h
theorem Ext.rd {Y Y' : Lay} {H H' : Hp} (e : Ext Y H Y' H') {a : Addr} {u : HO} (h : Rd H a u) (hn : a ∉ Y.loc) : Rd H' a u := by
  rcases h with h | ⟨o, h⟩
  · exact .inl (e.keep a _ h hn)
  · exact .inr ⟨o, e.keep a _ h hn⟩
theorem Rd.some {H : Hp} {a : Addr} {u : HO} (h : Rd H a u) : ∃ o, H a = some o := by
  rcases h with h | ⟨o, h⟩
  · exact ⟨_, h⟩
  · exact ⟨_, h⟩
theorem Ext.sqt {K : PySem.W.Frag} {Y Y' : Lay} {H H' : Hp} (e : Ext Y H Y' H') {a : Addr} {xs : List V} (h : SqT K H a xs) : SqT K H' a xs := by
  rcases h with h | h
  · exact .inl (e.tups a xs h)
  · exact .inr h
mutual
theorem Rep.monoV {K : PySem.W.Frag} {Y Y' : Lay} {H H' : Hp} (e : ExtV Y H Y' H') : ∀ {d : D} {v : V}, Rep K Y H d v → Rep K Y' H' d v
  | _, _, .non => .non
  | _, _, .bl b => .bl b
  | _, _, .int i => .int i
  | _, _, .str s => .str s
  | _, _, .tup h r => .tup (e.sqt h) (RepL.monoV e r)
  | _, _, .lst h hv r => .lst (e.rd h hv) (fun q => by
      rcases e.fresh _ q with z | z
      · exact hv z
      · obtain ⟨o, ho⟩ := Rd.some h
        rw [z] at ho; cases ho) (RepL.monoV e r)
  | _, _, .lsk h r => .lsk h (RepL.monoV e r)
  | _, _, .loc h => .loc (by
      obtain ⟨m, em⟩ := e.pre
      rw [em, List.getElem?_append_left (List.getElem?_eq_some_iff.mp h).1]
      exact h)
theorem RepL.monoV {K : PySem.W.Frag} {Y Y' : Lay} {H H' : Hp} (e : ExtV Y H Y' H') : ∀ {ds : List D} {vs : List V}, RepL K Y H ds vs → RepL K Y' H' ds vs
  | _, _, .nil => .nil
  | _, _, .cons r t => .cons (Rep.monoV e r) (RepL.monoV e t)
end
theorem Rep.mono {K : PySem.W.Frag} {Y Y' : Lay} {H H' : Hp} (e : Ext Y H Y' H') {d : D} {v : V} (r : Rep K Y H d v) : Rep K Y' H' d v := r.monoV e.v
theorem RepL.mono {K : PySem.W.Frag} {Y Y' : Lay} {H H' : Hp} (e : Ext Y H Y' H') {ds : List D} {vs : List V} (r : RepL K Y H ds vs) : RepL K Y' H' ds vs := r.monoV e.v
theorem RepL.len {K : PySem.W.Frag} {Y : Lay} {H : Hp} : ∀ {ds : List D} {vs : List V}, RepL K Y H ds vs → ds.length = vs.length
  | _, _, .nil => rfl
  | _, _, .cons _ t => congrArg (· + 1) (RepL.len t)
theorem RepL.get {K : PySem.W.Frag} {Y : Lay} {H : Hp} : ∀ {ds : List D} {vs : List V} {i : Nat} {d : D}, RepL K Y H ds vs → ds[i]? = some d → ∃ v, vs[i]? = some v ∧ Rep K Y H d v
  | _, _, _, _, .nil, e => by simp at e
  | _, _, 0, _, .cons r _, e => by simp at e; subst e; exact ⟨_, rfl, r⟩
  | _, _, i + 1, d, .cons _ t, e => by
    obtain ⟨u, h1, h2⟩ := RepL.get (i := i) (d := d) t (by simpa using e)
    exact ⟨u, by simpa using h1, h2⟩
theorem RepL.get' {K : PySem.W.Frag} {Y : Lay} {H : Hp} : ∀ {ds : List D} {vs : List V} {i : Nat} {v : V}, RepL K Y H ds vs → vs[i]? = some v → ∃ d, ds[i]? = some d ∧ Rep K Y H d v
  | _, _, _, _, .nil, e => by simp at e
  | _, _, 0, _, .cons r _, e => by simp at e; subst e; exact ⟨_, rfl, r⟩
  | _, _, i + 1, d, .cons _ t, e => by
    obtain ⟨u, h1, h2⟩ := RepL.get' (i := i) (v := d) t (by simpa using e)
    exact ⟨u, by simpa using h1, h2⟩
theorem RepL.append {K : PySem.W.Frag} {Y : Lay} {H : Hp} : ∀ {ds es : List D} {vs ws : List V}, RepL K Y H ds vs → RepL K Y H es ws → RepL K Y H (ds ++ es) (vs ++ ws)
  | _, _, _, _, .nil, h => h
  | _, _, _, _, .cons r t, h => .cons r (RepL.append t h)
theorem RepL.take {K : PySem.W.Frag} {Y : Lay} {H : Hp} : ∀ {ds : List D} {vs : List V} (n : Nat), RepL K Y H ds vs → RepL K Y H (ds.take n) (vs.take n)
  | _, _, 0, _ => .nil
  | _, _, _ + 1, .nil => .nil
  | _, _, n + 1, .cons r t => .cons r (RepL.take n t)
theorem RepL.drop {K : PySem.W.Frag} {Y : Lay} {H : Hp} : ∀ {ds : List D} {vs : List V} (n : Nat), RepL K Y H ds vs → RepL K Y H (ds.drop n) (vs.drop n)
  | _, _, 0, r => r
  | _, _, _ + 1, .nil => .nil
  | _, _, n + 1, .cons _ t => RepL.drop n t
theorem RepL.set {K : PySem.W.Frag} {Y : Lay} {H : Hp} {d : D} {v : V} (r : Rep K Y H d v) : ∀ {ds : List D} {vs : List V} (i : Nat), RepL K Y H ds vs → RepL K Y H (ds.set i d) (vs.set i v)
  | _, _, _, .nil => .nil
  | _, _, 0, .cons _ t => .cons r t
  | _, _, i + 1, .cons q t => .cons q (RepL.set r i t)

section
variable {K : PySem.W.Frag} {Y Y' : Lay} {S : Store} {H H' : Hp} {p a : Addr} {o : HO}
/-- a new object that nobody will change -/
theorem Ext.new (h : H p = none) : Ext Y H Y (upd H p o) := ⟨⟨[], by simp⟩, fun _ h => h, fun b u e _ => by rw [upd_ne (ne_of_none e h)]; exact e, fun b xs e => by
    obtain ⟨u, hu⟩ := Rd.some e
    unfold Rd
    rw [upd_ne (ne_of_none hu h)]
    exact e, fun _ h => .inl h, fun _ h => .inl h, fun b hb => by
    by_cases q : b = p
    · rw [q]; exact h
    · rw [upd_ne q] at hb; exact hb⟩
theorem MOk.monoV {mo : MO} (m : MOk K Y H a mo) (e : ExtV Y H Y' H') (k : H' a = H a) : MOk K Y' H' a mo := by
  cases mo with
  | lst ds => obtain ⟨xs, h1, h2⟩ := m; exact ⟨xs, k.trans h1, h2.monoV e⟩
  | dict _ => exact m
  | inst _ _ => exact m
theorem MOk.mono {mo : MO} (m : MOk K Y H a mo) (e : Ext Y H Y' H') (k : H' a = H a) : MOk K Y' H' a mo := by
  cases mo with
  | lst ds => obtain ⟨xs, h1, h2⟩ := m; exact ⟨xs, k.trans h1, h2.mono e⟩
  | dict _ => exact m
  | inst _ _ => exact m
/-- every object stands -/
theorem Good.same (g : Good K Y S H) (e : Ext Y H Y' H') (hl : Y'.loc = Y.loc) (k : ∀ a ∈ Y.loc, H' a = H a) (ht : ∀ a, Y'.vol a → H' a ≠ none) : Good K Y' S H' :=
  ⟨by rw [hl]; exact g.len, by rw [hl]; exact g.nd, fun n mo a h1 h2 => by
    rw [hl] at h2
    exact (g.at' n mo a h1 h2).mono e (k a (List.mem_of_getElem? h2)), ht⟩
theorem Good.new (g : Good K Y S H) (h : H p = none) : Good K Y S (upd H p o) :=
  g.same (Ext.new h) rfl (fun a ha => upd_ne fun z => g.there a (Y.sub a ha) (by rw [z]; exact h)) fun a ha => by
    by_cases q : a = p
    · rw [q, upd_same]; exact fun z => nomatch z
    · rw [upd_ne q]; exact g.there a ha
def Lay.add (Y : Lay) (p : Addr) : Lay := ⟨Y.loc ++ [p], fun a => Y.vol a ∨ a = p, fun a h => by
  rcases List.mem_append.mp h with z | z
  · exact .inl (Y.sub a z)
  · exact .inr (by simpa using z)⟩
theorem Ext.add (h : H p = none) : Ext Y H (Y.add p) (upd H p o) :=
  have e : Ext Y H Y (upd H p o) := Ext.new h
  ⟨⟨[p], rfl⟩, fun a q => .inl q, e.keep, e.tups, fun a q => by
    rcases q with q | q
    · exact .inl q
    · exact .inr (by rw [q]; exact h), fun a q => by
    rcases List.mem_append.mp q with z | z
    · exact .inl z
    · exact .inr (by rw [List.mem_singleton.mp z]; exact h), e.dom⟩
theorem Good.add {mo : MO} (g : Good K Y S H) (h : H p = none) (m : MOk K (Y.add p) (upd H p o) p mo) : Good K (Y.add p) (S ++ [mo]) (upd H p o) := by
  have hp : p ∉ Y.loc := fun z => g.there p (Y.sub p z) h
  refine ⟨?_, ?_, fun n m' a h1 h2 => ?_, fun a ha => ?_⟩
  · show (Y.loc ++ [p]).length = _
    rw [List.length_append, List.length_append, g.len]; rfl
  · show (Y.loc ++ [p]).Nodup
    rw [List.nodup_append]
    exact ⟨g.nd, by simp, fun a ha b hb => by rw [List.mem_singleton.mp hb]; exact fun z => hp (z ▸ ha)⟩
  · by_cases hn : n < S.length
    · rw [List.getElem?_append_left hn] at h1
      have h2' : Y.loc[n]? = some a := by
        have : (Y.loc ++ [p])[n]? = some a := h2
        rwa [List.getElem?_append_left (by rw [g.len]; exact hn)] at this
      refine (g.at' n m' a h1 h2').mono (Ext.add h) (upd_ne fun z => hp (z ▸ List.mem_of_getElem? h2'))
    · have hn' : S.length ≤ n := by omega
      rw [List.getElem?_append_right hn'] at h1
      have h2' : (Y.loc ++ [p])[n]? = some a := h2
      rw [List.getElem?_append_right (by rw [g.len]; exact hn'), g.len] at h2'
      have z : n - S.length = 0 := by
        have := (List.getElem?_eq_some_iff.mp h1).1
        simpa using this
      rw [z] at h1 h2'
      simp at h1 h2'
      subst h1; subst h2'
      exact m
  · by_cases q : a = p
    · rw [q, upd_same]; exact fun z => nomatch z
    · rw [upd_ne q]
      rcases ha with z | z
      · exact g.there a z
      · exact absurd z q
/-- an object of the store is changed -/
theorem Ext.chg {n : Nat} (hn : Y.loc[n]? = some a) (nt : ∀ xs, ¬ Rd H a (.tup xs)) (hs : H a ≠ none) : Ext Y H Y (upd H a o) :=
  ⟨⟨[], by simp⟩, fun _ h => h, fun b u e q => by rw [upd_ne fun (z : b = a) => q (z ▸ List.mem_of_getElem? hn)]; exact e, fun b xs e => by
    have : b ≠ a := fun z => nt xs (z ▸ e)
    unfold Rd
    rw [upd_ne this]
    exact e, fun _ h => .inl h, fun _ h => .inl h, fun b hb => by
    by_cases q : b = a
    · rw [q, upd_same] at hb; cases hb
    · rw [upd_ne q] at hb; exact hb⟩
theorem Good.chg {n : Nat} {mo : MO} (g : Good K Y S H) (hn : Y.loc[n]? = some a) (nt : ∀ xs, ¬ Rd H a (.tup xs)) (m : MOk K Y (upd H a o) a mo) : Good K Y (S.set n mo) (upd H a o) := by
  have hs : H a ≠ none := g.there a (Y.sub a (List.mem_of_getElem? hn))
  refine ⟨by rw [List.length_set]; exact g.len, g.nd, fun k m' b h1 h2 => ?_, fun b hb => ?_⟩
  · by_cases q : k = n
    · subst q
      rw [hn] at h2; cases h2
      have hk : k < S.length := by rw [← g.len]; exact (List.getElem?_eq_some_iff.mp hn).1
      rw [List.getElem?_set_self hk] at h1
      cases h1
      exact m
    · rw [List.getElem?_set_ne (Ne.symm q)] at h1
      have ne : b ≠ a := fun z => by
        subst z
        obtain ⟨l1, e1⟩ := List.getElem?_eq_some_iff.mp h2
        obtain ⟨l2, e2⟩ := List.getElem?_eq_some_iff.mp hn
        exact q ((List.getElem_inj g.nd).mp (e1.trans e2.symm))
      exact (g.at' k m' b h1 h2).mono (Ext.chg hn nt hs) (upd_ne ne)
  · by_cases q : b = a
    · rw [q, upd_same]; exact fun z => nomatch z
    · rw [upd_ne q]; exact g.there b hb
end

/-! ### outcomes -/
/-- whom an exception goes to, and where the classes lie -/
structure Wh where
  E : XK
  cl : Nat → Addr
def Wh.w (U : Wh) (c : Nat) (H : Hp) : Prop := U.E (.ref (U.cl c)) none H

def Pst {α : Type} (K : PySem.W.Frag) (U : Wh) (Y : Lay) (H : Hp) (Φ : α → Store → Lay → Hp → Prop) : Res α → Prop
  | .ok a S' => ∀ Y' H', Ext Y H Y' H' → Good K Y' S' H' → Φ a S' Y' H'
  | .ex c S' => ∀ Y' H', Ext Y H Y' H' → Good K Y' S' H' → U.w c H'
  | .un => False
section
variable {α β : Type} {K : PySem.W.Frag} {U : Wh} {Y Y' : Lay} {H H' : Hp} {Φ Ψ : α → Store → Lay → Hp → Prop} {Φ' : β → Store → Lay → Hp → Prop}
theorem Pst.mono {r : Res α} (h : Pst K U Y H Φ r) (e : Ext Y H Y' H') : Pst K U Y' H' Φ r := by
  cases r with
  | ok a S' => exact fun Y2 H2 e2 g2 => h Y2 H2 (e.trans e2) g2
  | ex c S' => exact fun Y2 H2 e2 g2 => h Y2 H2 (e.trans e2) g2
  | un => exact h
theorem Pst.imp {r : Res α} (h : Pst K U Y H Φ r) (f : ∀ a S' Y' H', Ext Y H Y' H' → Good K Y' S' H' → Φ a S' Y' H' → Ψ a S' Y' H') : Pst K U Y H Ψ r := by
  cases r with
  | ok a S' => exact fun Y2 H2 e2 g2 => f _ _ _ _ e2 g2 (h Y2 H2 e2 g2)
  | ex c S' => exact h
  | un => exact h
/-- step by step -/
theorem Pst.bind {r : Res α} {f : α → Store → Res β} (h : Pst K U Y H Φ' (r.bind f)) : Pst K U Y H (fun a S1 Y1 H1 => Pst K U Y1 H1 Φ' (f a S1)) r := by
  cases r with
  | ok a S' => exact fun Y2 H2 e2 g2 => Pst.mono (show Pst K U Y H Φ' (f a S') from h) e2
  | ex c S' => exact h
  | un => exact h
end

def RepS (K : PySem.W.Frag) (Y : Lay) (H : Hp) (ρ : Env) (σ : St) : Prop := ρ.length = σ.length ∧ ∀ (i : Nat) (d : D), ρ[i]? = some (some d) → ∃ v : V, σ[i]? = some (some v) ∧ Rep K Y H d v
theorem RepS.mono {K : PySem.W.Frag} {Y Y' : Lay} {H H' : Hp} {ρ : Env} {σ : St} (h : RepS K Y H ρ σ) (e : Ext Y H Y' H') : RepS K Y' H' ρ σ :=
  ⟨h.1, fun i d q => let ⟨v, h1, h2⟩ := h.2 i d q; ⟨v, h1, h2.mono e⟩⟩
theorem RepS.set {K : PySem.W.Frag} {Y : Lay} {H : Hp} {ρ : Env} {σ : St} {d : D} {v : V} (h : RepS K Y H ρ σ) (r : Rep K Y H d v) (i : Nat) : RepS K Y H (ρ.set i (some d)) (σ.set i (some v)) := by
  refine ⟨by rw [List.length_set, List.length_set]; exact h.1, fun j e q => ?_⟩
  by_cases hj : i = j
  · subst hj
    by_cases hl : i < ρ.length
    · rw [List.getElem?_set_self hl] at q
      cases q
      exact ⟨v, List.getElem?_set_self (by rw [← h.1]; exact hl), r⟩
    · rw [List.getElem?_eq_none (by simpa using hl)] at q; cases q
  · rw [List.getElem?_set_ne hj] at q
    obtain ⟨u, h1, h2⟩ := h.2 j e q
    exact ⟨u, by rw [List.getElem?_set_ne hj]; exact h1, h2⟩
theorem RepS.setN {K : PySem.W.Frag} {Y : Lay} {H : Hp} {ρ : Env} {σ : St} (h : RepS K Y H ρ σ) (i : Nat) : RepS K Y H (ρ.set i none) (σ.set i none) := by
  refine ⟨by rw [List.length_set, List.length_set]; exact h.1, fun j e q => ?_⟩
  by_cases hj : i = j
  · subst hj
    by_cases hl : i < ρ.length
    · rw [List.getElem?_set_self hl] at q; cases q
    · rw [List.getElem?_eq_none (by simpa using hl)] at q; cases q
  · rw [List.getElem?_set_ne hj] at q
    obtain ⟨u, h1, h2⟩ := h.2 j e q
    exact ⟨u, by rw [List.getElem?_set_ne hj]; exact h1, h2⟩
theorem RepS.wipe {K : PySem.W.Frag} {Y : Lay} {H : Hp} {ρ : Env} {σ : St} (h : RepS K Y H ρ σ) : ∀ vs : List Nat, RepS K Y H (WF.wipe ρ vs) (L2.wipe σ vs)
  | [] => h
  | v :: vs => (RepS.wipe h vs).setN v

/-! ### the judgements -/
/-- what an expression's reading asks, told by its denotation -/
def DE (K : PySem.W.Frag) (U : Wh) (te : TE) (F : FE) : Prop :=
  ∀ Y S H σ ρ Q, Good K Y S H → RepS K Y H ρ σ → Pst K U Y H (fun d _ Y' H' => ∀ v, Rep K Y' H' d v → Q v H') (F ρ S) → te σ H Q
structure PeF (X : Cx) (U : Wh) (e : Expr) (F : FE) : Prop where
  ex : ∃ te, PE X e te ∧ DE X.K U te F
def DT (K : PySem.W.Frag) (U : Wh) (tt : TT) (F : FT) : Prop :=
  ∀ Y S H σ ρ Q, Good K Y S H → RepS K Y H ρ σ → Pst K U Y H (fun b _ _ H' => Q b H') (F ρ S) → tt σ H Q
structure PtF (X : Cx) (U : Wh) (e : Expr) (F : FT) : Prop where
  ex : ∃ tt, PT X e tt ∧ DT X.K U tt F
structure PwF (X : Cx) (U : Wh) (e : Expr) (F : FT) : Prop where
  ex : ∃ tt, PW X e tt ∧ DT X.K U tt F
def DA (K : PySem.W.Frag) (U : Wh) (ta : TA) (F : List FE) : Prop :=
  ∀ Y S H σ ρ Q, Good K Y S H → RepS K Y H ρ σ → Pst K U Y H (fun ds _ Y' H' => ∀ vs, RepL K Y' H' ds vs → Q vs H') (evalAll F ρ S) → ta σ H Q
structure PaF (X : Cx) (U : Wh) (es : List Expr) (F : List FE) : Prop where
  ex : ∃ ta, PA X es ta ∧ DA X.K U ta F
/-- a statement: Φ of the way it ends -/
def EndsOk (K : PySem.W.Frag) (En : Ends) : Ctl → Store → Lay → Hp → Prop := fun c _ Y H => match c with
  | .next ρ => ∀ σ, RepS K Y H ρ σ → En.nx σ H
  | .ret d => ∀ v, Rep K Y H d v → En.rt v H
  | .brk ρ => ∀ σ, RepS K Y H ρ σ → En.bk σ H
  | .cnt ρ => ∀ σ, RepS K Y H ρ σ → En.ct σ H
def DS (K : PySem.W.Frag) (U : Wh) (ts : TS) (F : FS) : Prop :=
  ∀ Y S H σ ρ En, Good K Y S H → RepS K Y H ρ σ → Pst K U Y H (EndsOk K En) (F ρ S) → ts En σ H
structure PsF (X : Cx) (U : Wh) (st : Stmt) (F : FS) : Prop where
  ex : ∃ ts, PS X st ts ∧ DS X.K U ts F
structure PssF (X : Cx) (U : Wh) (sts : List Stmt) (F : FS) : Prop where
  ex : ∃ ts, PSs X sts ts ∧ DS X.K U ts F
/-- a target: it writes the slots ws alone -/
def DG (K : PySem.W.Frag) (U : Wh) (ws : List Nat) (tg : TG) (F : FG) : Prop :=
  ∀ Y S H σ ρ d v Q, Good K Y S H → RepS K Y H ρ σ → Rep K Y H d v →
    Pst K U Y H (fun ρ' _ Y' H' => ∀ σ', RepS K Y' H' ρ' σ' → (∀ i, i ∉ ws → σ'[i]? = σ[i]?) → σ'.length = σ.length → Q σ' H') (F d ρ S) → tg v σ H Q
structure PgF (X : Cx) (U : Wh) (tgt : Expr) (ws : List Nat) (F : FG) : Prop where
  ex : ∃ tg, PG X tgt tg ∧ DG X.K U ws tg F

/-! ### the readings that the denotations stand for -/
def canonE (K : PySem.W.Frag) (U : Wh) (F : FE) : TE := fun σ H Q => ∃ Y S ρ, Good K Y S H ∧ RepS K Y H ρ σ ∧ Pst K U Y H (fun d _ Y' H' => ∀ v, Rep K Y' H' d v → Q v H') (F ρ S)
def canonT (K : PySem.W.Frag) (U : Wh) (F : FT) : TT := fun σ H Q => ∃ Y S ρ, Good K Y S H ∧ RepS K Y H ρ σ ∧ Pst K U Y H (fun b _ _ H' => Q b H') (F ρ S)
def canonG (K : PySem.W.Frag) (U : Wh) (ws : List Nat) (F : FG) : TG := fun v σ H Q => ∃ Y S ρ d, Good K Y S H ∧ RepS K Y H ρ σ ∧ Rep K Y H d v ∧
  Pst K U Y H (fun ρ' _ Y' H' => ∀ σ', RepS K Y' H' ρ' σ' → (∀ i, i ∉ ws → σ'[i]? = σ[i]?) → σ'.length = σ.length → Q σ' H') (F d ρ S)
theorem PeF.canon {X : Cx} {U : Wh} {e : Expr} {F : FE} (h : PeF X U e F) : PE X e (canonE X.K U F) := by
  obtain ⟨te, p, q⟩ := h
  exact ⟨fun pins s σ H Q I ⟨Y, S, ρ, g, r, k⟩ => p.run pins s σ H Q I (q Y S H σ ρ Q g r k)⟩
theorem PgF.canon {X : Cx} {U : Wh} {e : Expr} {ws : List Nat} {F : FG} (h : PgF X U e ws F) : PG X e (canonG X.K U ws F) := by
  obtain ⟨te, p, q⟩ := h
  exact ⟨fun pins s σ H v u Q I rv ⟨Y, S, ρ, d, g, r, rd, k⟩ => p.run pins s σ H v u Q I rv (q Y S H σ ρ d v Q g r rd k)⟩
end WF

set_option Elab.async false
set_option linter.all false
set_option maxRecDepth 100000
set_option maxHeartbeats 4000000
/-! # Rules1: values, operators, built-in functions -/
namespace WF
open PySem L2 PyProof.Rows

theorem lim_eq : lim = sizeLine := by rw [sizeLine_eq]
theorem sv_len (s : Cs) : (sv s).length = s.length := by simp [Str.length]
theorem sv_inj {s t : Cs} : sv s = sv t ↔ s = t := by
  constructor
  · intro h
    have := congrArg (fun x : PySem.Str => x.cps.toList) h
    simpa using this
  · rintro rfl; rfl
theorem sv_app (s t : Cs) : sv s ++ sv t = sv (s ++ t) := by
  show (Str.mk _ : PySem.Str) = _
  simp

/-- what is asked of a new datum: ahead of a rule's end -/
abbrev PD (K : PySem.W.Frag) (Q : VK) : D → Store → Lay → Hp → Prop := fun d _ Y H => ∀ v, Rep K Y H d v → Q v H

section
variable {K : PySem.W.Frag} {U : Wh} {Y : Lay} {S : Store} {H : Hp} {Q : VK} {d : D} {v : V}
/-- an outcome at once -/
theorem Pst.now {α : Type} {Φ : α → Store → Lay → Hp → Prop} {a : α} (h : Pst K U Y H Φ (.ok a S)) (g : Good K Y S H) : Φ a S Y H := h Y H Ext.refl g
theorem Pst.val (h : Pst K U Y H (PD K Q) (.ok d S)) (g : Good K Y S H) (r : Rep K Y H d v) : Q v H := h Y H Ext.refl g v r
/-- a new object that nobody changes -/
theorem Pst.fresh (h : Pst K U Y H (PD K Q) (.ok d S)) (g : Good K Y S H) {p : Addr} {o : HO} (hp : H p = none) (r : Rep K Y (upd H p o) d (.ref p)) : Q (.ref p) (upd H p o) :=
  h Y _ (Ext.new hp) (g.new hp) _ r
theorem Rep.newT {ds : List D} {xs : List V} {p : Addr} (hp : H p = none) (r : RepL K Y H ds xs) : Rep K Y (upd H p (.tup xs)) (.tup ds) (.ref p) :=
  .tup (.inl (.inl upd_same)) (r.mono (Ext.new hp))
theorem Rep.newL {ds : List D} {xs : List V} {p : Addr} (g : Good K Y S H) (hp : H p = none) (r : RepL K Y H ds xs) : Rep K Y (upd H p (.lst xs)) (.lst ds) (.ref p) :=
  .lst (.inl upd_same) (fun z => g.there p z hp) (r.mono (Ext.new hp))
end

/-! ### names and constants -/
section
variable {X : Cx} {U : Wh} {e : Expr}
theorem pf_var (i : Nat) {x : PySem.Str} {pos : Pos} (hN : X.N[i]? = some x := by rfl) (hv : Vis X.env.scope x := by first | exact Or.inl rfl | exact Or.inr (Or.inl rfl) | exact Or.inr (Or.inr rfl))
    (hd : (x == ("__debug__" : PySem.Str)) = false := by decide) (hcd : (x == ("__classdict__" : PySem.Str)) = false := by decide) : PeF X U (.Name x pos) (dVar i) := by
  refine ⟨_, pe_var hN hv hd hcd, fun Y S H σ ρ Q g r h => ?_⟩
  unfold dVar at h
  split at h
  · rename_i d e
    obtain ⟨v, h1, h2⟩ := r.2 i d e
    exact ⟨v, h1, h.val g h2⟩
  · exact h.elim
theorem DE.const {K : PySem.W.Frag} {v : V} {d : D} (h : ∀ Y H, Rep K Y H d v) : DE K U (tC v) (dC d) := fun Y S H σ ρ Q g r q => q.val g (h Y H)
theorem pf_int {i : Int} {j pos} : PeF X U (.Constant (.int i) j pos) (dC (.int i)) := ⟨_, pe_int, DE.const fun _ _ => .int i⟩
theorem pf_bl {b : Bool} {j pos} : PeF X U (.Constant (.bool b) j pos) (dC (.bl b)) := ⟨_, pe_bl, DE.const fun _ _ => .bl b⟩
theorem pf_non {j pos} : PeF X U (.Constant .none j pos) (dC .non) := ⟨_, pe_non, DE.const fun _ _ => .non⟩
theorem pf_str {x : PySem.Str} {s : Cs} {j pos} (h : x = sv s) : PeF X U (.Constant (.str x) j pos) (dC (.str s)) := ⟨_, pe_str, by rw [h]; exact DE.const fun _ _ => .str s⟩
/-- a module's constant -/
theorem pf_globStr {x : PySem.Str} {s : Cs} {pos : Pos} {t : Tok} {y : PySem.Str} (hm : X.mg x = some (.str y t)) (h : y = sv s) (hg : Gl X x := by rfl) (hd : (x == ("__debug__" : PySem.Str)) = false := by decide) :
    PeF X U (.Name x pos) (dC (.str s)) := ⟨_, pe_glob hg hm (v := .str (sv s)) ⟨t, by rw [h]⟩ hd, DE.const fun _ _ => .str s⟩
theorem pf_globInt {x : PySem.Str} {i : Int} {pos : Pos} {t : Tok} (hm : X.mg x = some (.int i t)) (hg : Gl X x := by rfl) (hd : (x == ("__debug__" : PySem.Str)) = false := by decide) :
    PeF X U (.Name x pos) (dC (.int i)) := ⟨_, pe_glob hg hm (v := .int i) ⟨t, rfl⟩ hd, DE.const fun _ _ => .int i⟩

/-! ### operators -/
def OpF (X : Cx) (U : Wh) (f : Value → Value → Sem Value) (g : D → D → M D) : Prop :=
  ∃ r, OpR X f r ∧ ∀ Y S H a b x y Q, Good X.K Y S H → Rep X.K Y H a x → Rep X.K Y H b y → Pst X.K U Y H (PD X.K Q) (g a b S) → r x y H Q
theorem DE.op {K : PySem.W.Frag} {ta tb : TE} {Fa Fb : FE} {r : R2} {g : D → D → M D} (ha : DE K U ta Fa) (hb : DE K U tb Fb)
    (hr : ∀ Y S H a b x y Q, Good K Y S H → Rep K Y H a x → Rep K Y H b y → Pst K U Y H (PD K Q) (g a b S) → r x y H Q) : DE K U (tOp r ta tb) (dBin g Fa Fb) := fun Y S H σ ρ Q g0 rs h =>
  ha Y S H σ ρ _ g0 rs ((Pst.bind h).imp fun a S1 Y1 H1 e1 g1 h1 x rx => hb Y1 S1 H1 σ ρ _ g1 (rs.mono e1) ((Pst.bind h1).imp fun b S2 Y2 H2 e2 g2 h2 y ry =>
    hr Y2 S2 H2 a b x y Q g2 (rx.mono e2) ry h2))
variable {a b c : Expr} {Fa Fb Fc : FE} {pos : Pos} {g g' : D → D → M D}
theorem pf_bin {op : Operator} (ho : OpF X U (binaryOp op) g) (ha : PeF X U a Fa) (hb : PeF X U b Fb) : PeF X U (.BinOp a op b pos) (dBin g Fa Fb) := by
  obtain ⟨ta, p1, q1⟩ := ha
  obtain ⟨tb, p2, q2⟩ := hb
  obtain ⟨r, hr, h⟩ := ho
  exact ⟨_, pe_op hr p1 p2, DE.op q1 q2 h⟩
theorem pf_cmp {op : CmpOp} (ho : OpF X U (compareOp op) g) (ha : PeF X U a Fa) (hb : PeF X U b Fb) (hm : behindInMarks op b = false := by first | exact nomark _ | rfl) : PeF X U (.Compare a [op] [b] pos) (dBin g Fa Fb) := by
  obtain ⟨ta, p1, q1⟩ := ha
  obtain ⟨tb, p2, q2⟩ := hb
  obtain ⟨r, hr, h⟩ := ho
  exact ⟨_, pe_cmpR hr p1 p2 hm, DE.op q1 q2 h⟩
/-- a value as a test -/
theorem DT.val {K : PySem.W.Frag} {te : TE} {F : FE} (h : DE K U te F) : DT K U (tTest te) (tVal F) := fun Y S H σ ρ Q g0 rs q =>
  h Y S H σ ρ _ g0 rs ((Pst.bind q).imp fun d S1 Y1 H1 e1 g1 h1 x rx => by
    cases rx with
    | bl b => exact ⟨b, rfl, h1.now g1⟩
    | _ => exact h1.elim)
theorem DT.valB {K : PySem.W.Frag} {te : TE} {F : FE} (h : DE K U te F) : DT K U (tB te) (tVal F) := fun Y S H σ ρ Q g0 rs q =>
  h Y S H σ ρ _ g0 rs ((Pst.bind q).imp fun d S1 Y1 H1 e1 g1 h1 x rx => by
    cases rx with
    | bl b => exact ⟨b, rfl, h1.now g1⟩
    | _ => exact h1.elim)
theorem pt_cmp {op : CmpOp} (ho : OpF X U (compareOp op) g) (ha : PeF X U a Fa) (hb : PeF X U b Fb) (hm : behindInMarks op b = false := by first | exact nomark _ | rfl) : PtF X U (.Compare a [op] [b] pos) (tVal (dBin g Fa Fb)) := by
  obtain ⟨ta, p1, q1⟩ := ha
  obtain ⟨tb, p2, q2⟩ := hb
  obtain ⟨r, hr, h⟩ := ho
  exact ⟨_, pt_cmpR hr p1 p2 hm, DT.val (DE.op q1 q2 h)⟩
theorem pt_of {e : Expr} {F : FE} (h : PeF X U e F) (he : ∀ whole, isTrue e X.env whole = (do let v ← whole; standAt e.pos; holding [v] (truthy v)) := by intro _; rfl) : PtF X U e (tVal F) := by
  obtain ⟨te, p, q⟩ := h
  exact ⟨_, pt_val p he, DT.valB q⟩
/-- is None, is not None -/
theorem pf_isN {j pos'} (ha : PeF X U a Fa) : PeF X U (.Compare a [.Is] [.Constant .none j pos'] pos) (dUn gIsNon Fa) := by
  obtain ⟨ta, p, q⟩ := ha
  refine ⟨_, pe_cmp (pc_isN p) rfl, fun Y S H σ ρ Q g0 rs h => q Y S H σ ρ _ g0 rs ((Pst.bind h).imp fun d S1 Y1 H1 e1 g1 h1 x rx => ?_)⟩
  have e : decide (x = V.non) = d.isNon := by cases rx <;> rfl
  rw [e]
  exact h1.val g1 (.bl _)
theorem pf_notN {j pos'} (ha : PeF X U a Fa) : PeF X U (.Compare a [.IsNot] [.Constant .none j pos'] pos) (dUn gNotNon Fa) := by
  obtain ⟨ta, p, q⟩ := ha
  refine ⟨_, pe_cmp (pc_notN p) rfl, fun Y S H σ ρ Q g0 rs h => q Y S H σ ρ _ g0 rs ((Pst.bind h).imp fun d S1 Y1 H1 e1 g1 h1 x rx => ?_)⟩
  have e : decide (x = V.non) = d.isNon := by cases rx <;> rfl
  rw [e]
  exact h1.val g1 (.bl _)
theorem pt_isN {j pos'} (ha : PeF X U a Fa) : PtF X U (.Compare a [.Is] [.Constant .none j pos'] pos) (tVal (dUn gIsNon Fa)) := by
  obtain ⟨ta, p, q⟩ := ha
  refine ⟨_, L2.pt_cmp (pc_isN p) rfl, DT.valB fun Y S H σ ρ Q g0 rs h => q Y S H σ ρ _ g0 rs ((Pst.bind h).imp fun d S1 Y1 H1 e1 g1 h1 x rx => ?_)⟩
  have e : decide (x = V.non) = d.isNon := by cases rx <;> rfl
  rw [e]
  exact h1.val g1 (.bl _)
theorem pt_notN {j pos'} (ha : PeF X U a Fa) : PtF X U (.Compare a [.IsNot] [.Constant .none j pos'] pos) (tVal (dUn gNotNon Fa)) := by
  obtain ⟨ta, p, q⟩ := ha
  refine ⟨_, L2.pt_cmp (pc_notN p) rfl, DT.valB fun Y S H σ ρ Q g0 rs h => q Y S H σ ρ _ g0 rs ((Pst.bind h).imp fun d S1 Y1 H1 e1 g1 h1 x rx => ?_)⟩
  have e : decide (x = V.non) = d.isNon := by cases rx <;> rfl
  rw [e]
  exact h1.val g1 (.bl _)

/-! ### and, or, not -/
variable {rest : List Expr}
theorem pf_one {op} (h : PeF X U a Fa) : PeF X U (.BoolOp op [a] pos) Fa := by
  obtain ⟨ta, p, q⟩ := h
  exact ⟨_, pe_one p, q⟩
theorem pf_and (ha : PeF X U a Fa) (hb : PeF X U (.BoolOp .And (b :: rest) pos) Fb) : PeF X U (.BoolOp .And (a :: b :: rest) pos) (dAnd Fa Fb) := by
  obtain ⟨ta, p1, q1⟩ := ha
  obtain ⟨tb, p2, q2⟩ := hb
  refine ⟨_, pe_and p1 p2, fun Y S H σ ρ Q g0 rs h => q1 Y S H σ ρ _ g0 rs ((Pst.bind h).imp fun d S1 Y1 H1 e1 g1 h1 x rx => ?_)⟩
  cases rx with
  | bl k =>
    refine ⟨k, rfl, ?_⟩
    cases k with
    | true => rw [if_pos rfl]; exact q2 Y1 S1 H1 σ ρ Q g1 (rs.mono e1) h1
    | false => rw [if_neg Bool.false_ne_true]; exact h1.val g1 (.bl false)
  | _ => exact h1.elim
theorem pf_or (ha : PeF X U a Fa) (hb : PeF X U (.BoolOp .Or (b :: rest) pos) Fb) : PeF X U (.BoolOp .Or (a :: b :: rest) pos) (dOr Fa Fb) := by
  obtain ⟨ta, p1, q1⟩ := ha
  obtain ⟨tb, p2, q2⟩ := hb
  refine ⟨_, pe_or p1 p2, fun Y S H σ ρ Q g0 rs h => q1 Y S H σ ρ _ g0 rs ((Pst.bind h).imp fun d S1 Y1 H1 e1 g1 h1 x rx => ?_)⟩
  cases rx with
  | bl k =>
    refine ⟨k, rfl, ?_⟩
    cases k with
    | false => rw [if_neg Bool.false_ne_true]; exact q2 Y1 S1 H1 σ ρ Q g1 (rs.mono e1) h1
    | true => rw [if_pos rfl]; exact h1.val g1 (.bl true)
  | _ => exact h1.elim
theorem pf_not (ha : PeF X U a Fa) : PeF X U (.UnaryOp .Not a pos) (dNot Fa) := by
  obtain ⟨ta, p, q⟩ := ha
  refine ⟨_, pe_not p, fun Y S H σ ρ Q g0 rs h => q Y S H σ ρ _ g0 rs ((Pst.bind h).imp fun d S1 Y1 H1 e1 g1 h1 x rx => ?_)⟩
  cases rx with
  | bl k => exact ⟨k, rfl, h1.val g1 (.bl _)⟩
  | _ => exact h1.elim
variable {Ta Tb : FT}
theorem PwF.pt {e : Expr} {F : FT} (h : PwF X U e F) : PtF X U e F := by
  obtain ⟨t, p, q⟩ := h
  exact ⟨_, p.pt, q⟩
theorem pw_and1 (ha : PtF X U a Ta) : PwF X U (.BoolOp .And [a] pos) Ta := by
  obtain ⟨t, p, q⟩ := ha
  exact ⟨_, L2.pw_and1 p, q⟩
theorem pw_or1 (ha : PtF X U a Ta) : PwF X U (.BoolOp .Or [a] pos) Ta := by
  obtain ⟨t, p, q⟩ := ha
  exact ⟨_, L2.pw_or1 p, q⟩
theorem pw_and (ha : PtF X U a Ta) (hb : PwF X U (.BoolOp .And (b :: rest) pos) Tb) : PwF X U (.BoolOp .And (a :: b :: rest) pos) (tAnd Ta Tb) := by
  obtain ⟨t1, p1, q1⟩ := ha
  obtain ⟨t2, p2, q2⟩ := hb
  refine ⟨_, L2.pw_and p1 p2, fun Y S H σ ρ Q g0 rs h => q1 Y S H σ ρ _ g0 rs ((Pst.bind h).imp fun k S1 Y1 H1 e1 g1 h1 => ?_)⟩
  cases k with
  | true => rw [if_pos rfl]; exact q2 Y1 S1 H1 σ ρ Q g1 (rs.mono e1) h1
  | false => rw [if_neg Bool.false_ne_true]; exact h1.now g1
theorem pw_or (ha : PtF X U a Ta) (hb : PwF X U (.BoolOp .Or (b :: rest) pos) Tb) : PwF X U (.BoolOp .Or (a :: b :: rest) pos) (tOr Ta Tb) := by
  obtain ⟨t1, p1, q1⟩ := ha
  obtain ⟨t2, p2, q2⟩ := hb
  refine ⟨_, L2.pw_or p1 p2, fun Y S H σ ρ Q g0 rs h => q1 Y S H σ ρ _ g0 rs ((Pst.bind h).imp fun k S1 Y1 H1 e1 g1 h1 => ?_)⟩
  cases k with
  | true => rw [if_pos rfl]; exact h1.now g1
  | false => rw [if_neg Bool.false_ne_true]; exact q2 Y1 S1 H1 σ ρ Q g1 (rs.mono e1) h1
theorem pt_not (ha : PtF X U a Ta) : PtF X U (.UnaryOp .Not a pos) (tNot Ta) := by
  obtain ⟨t, p, q⟩ := ha
  exact ⟨_, L2.pt_not p, fun Y S H σ ρ Q g0 rs h => q Y S H σ ρ _ g0 rs ((Pst.bind h).imp fun k S1 Y1 H1 e1 g1 h1 => h1.now g1)⟩
theorem pf_if (ht : PtF X U c Ta) (ha : PeF X U a Fa) (hb : PeF X U b Fb) : PeF X U (.IfExp c a b pos) (dIf Ta Fa Fb) := by
  obtain ⟨t, p0, q0⟩ := ht
  obtain ⟨ta, p1, q1⟩ := ha
  obtain ⟨tb, p2, q2⟩ := hb
  refine ⟨_, pe_ifExp p0 p1 p2, fun Y S H σ ρ Q g0 rs h => q0 Y S H σ ρ _ g0 rs ((Pst.bind h).imp fun k S1 Y1 H1 e1 g1 h1 => ?_)⟩
  cases k with
  | true => exact q1 Y1 S1 H1 σ ρ Q g1 (rs.mono e1) h1
  | false => exact q2 Y1 S1 H1 σ ρ Q g1 (rs.mono e1) h1
/-- a op1 b op2 c -/
theorem DE.chain {K : PySem.W.Frag} {ta tb tc : TE} {r r' : R2} (ha : DE K U ta Fa) (hb : DE K U tb Fb) (hc : DE K U tc Fc)
    (hr : ∀ Y S H a b x y Q, Good K Y S H → Rep K Y H a x → Rep K Y H b y → Pst K U Y H (PD K Q) (g a b S) → r x y H Q)
    (hr' : ∀ Y S H a b x y Q, Good K Y S H → Rep K Y H a x → Rep K Y H b y → Pst K U Y H (PD K Q) (g' a b S) → r' x y H Q)
    (hx : ∀ Y S H a b x y Q, Good K Y S H → Rep K Y H a x → Rep K Y H b y → r x y H Q → True) :
    DE K U (tChain r r' ta tb tc) (dChain g g' Fa Fb Fc) := fun Y S H σ ρ Q g0 rs h =>
  ha Y S H σ ρ _ g0 rs ((Pst.bind h).imp fun a S1 Y1 H1 e1 g1 h1 x rx => hb Y1 S1 H1 σ ρ _ g1 (rs.mono e1) ((Pst.bind h1).imp fun b S2 Y2 H2 e2 g2 h2 y ry =>
    hr Y2 S2 H2 a b x y _ g2 (rx.mono e2) ry ((Pst.bind h2).imp fun z S3 Y3 H3 e3 g3 h3 w rw' => by
      cases rw' with
      | bl k =>
        refine ⟨k, rfl, ?_⟩
        cases k with
        | true =>
          rw [if_pos rfl]
          exact hc Y3 S3 H3 σ ρ _ g3 ((rs.mono e1).mono (e2.trans e3)) ((Pst.bind h3).imp fun u S4 Y4 H4 e4 g4 h4 w4 r4 => hr' Y4 S4 H4 b u y w4 Q g4 (ry.mono (e3.trans e4)) r4 h4)
        | false =>
          rw [if_neg Bool.false_ne_true]
          exact h3.val g3 (.bl false)
      | _ => exact h3.elim)))
theorem pf_chain {op op' : CmpOp} (ho : OpF X U (compareOp op) g) (ho' : OpF X U (compareOp op') g') (ha : PeF X U a Fa) (hb : PeF X U b Fb) (hc : PeF X U c Fc)
    (hm : lastMarks [op, op'] [b, c] = false := by with_unfolding_all rfl) : PeF X U (.Compare a [op, op'] [b, c] pos) (dChain g g' Fa Fb Fc) := by
  obtain ⟨ta, p1, q1⟩ := ha
  obtain ⟨tb, p2, q2⟩ := hb
  obtain ⟨tc, p3, q3⟩ := hc
  obtain ⟨r, hr, h⟩ := ho
  obtain ⟨r', hr', h'⟩ := ho'
  exact ⟨_, pe_chain hr hr' p1 p2 p3 hm, DE.chain q1 q2 q3 h h' fun _ _ _ _ _ _ _ _ _ _ _ _ => trivial⟩
theorem pt_chain {op op' : CmpOp} (ho : OpF X U (compareOp op) g) (ho' : OpF X U (compareOp op') g') (ha : PeF X U a Fa) (hb : PeF X U b Fb) (hc : PeF X U c Fc)
    (hm : lastMarks [op, op'] [b, c] = false := by with_unfolding_all rfl) : PtF X U (.Compare a [op, op'] [b, c] pos) (tVal (dChain g g' Fa Fb Fc)) := by
  obtain ⟨ta, p1, q1⟩ := ha
  obtain ⟨tb, p2, q2⟩ := hb
  obtain ⟨tc, p3, q3⟩ := hc
  obtain ⟨r, hr, h⟩ := ho
  obtain ⟨r', hr', h'⟩ := ho'
  exact ⟨_, L2.pt_chain hr hr' p1 p2 p3 hm, DT.val (DE.chain q1 q2 q3 h h' fun _ _ _ _ _ _ _ _ _ _ _ _ => trivial)⟩

/-! ### arguments, displays -/
variable {es : List Expr} {Fs : List FE}
theorem paf_nil : PaF X U [] [] := ⟨_, pa_nil, fun Y S H σ ρ Q g0 rs h => h.now g0 [] .nil⟩
theorem paf_cons (ha : PeF X U a Fa) (hr : PaF X U es Fs) (hs : starEach (a :: es) X.env = (false, eval a X.env) :: starEach es X.env := by rfl) : PaF X U (a :: es) (Fa :: Fs) := by
  obtain ⟨ta, p1, q1⟩ := ha
  obtain ⟨tr, p2, q2⟩ := hr
  exact ⟨_, pa_cons p1 p2 hs, fun Y S H σ ρ Q g0 rs h => q1 Y S H σ ρ _ g0 rs ((Pst.bind h).imp fun d S1 Y1 H1 e1 g1 h1 x rx => q2 Y1 S1 H1 σ ρ _ g1 (rs.mono e1)
    ((Pst.bind h1).imp fun ds S2 Y2 H2 e2 g2 h2 xs rxs => h2.now g2 _ (.cons (rx.mono e2) rxs)))⟩
theorem evalAll_len : ∀ {as : List FE} {ρ : Env} {S S' : Store} {ds : List D}, evalAll as ρ S = .ok ds S' → ds.length = as.length
  | [], ρ, S, S', ds, h => by cases h; rfl
  | a :: r, ρ, S, S', ds, h => by
    unfold evalAll at h
    cases e : a ρ S with
    | un => rw [e] at h; cases h
    | ex c T => rw [e] at h; cases h
    | ok d T =>
      rw [e] at h
      simp only [Res.ok_bind] at h
      cases e2 : evalAll r ρ T with
      | un => rw [e2] at h; cases h
      | ex c T => rw [e2] at h; cases h
      | ok es T2 =>
        rw [e2] at h
        cases h
        simp [evalAll_len e2]
theorem pf_tup {x1} (h : PaF X U es Fs) (hl : Fs.length ≤ 1000 := by exact Nat.le_of_ble_eq_true rfl) : PeF X U (.Tuple es x1 pos) (dTup Fs) := by
  obtain ⟨ta, p, q⟩ := h
  refine ⟨_, pe_tup p, fun Y S H σ ρ Q g0 rs h => q Y S H σ ρ _ g0 rs ?_⟩
  unfold dTup at h
  cases e : evalAll Fs ρ S with
  | un => rw [e] at h; exact h
  | ex c T => rw [e] at h; exact h
  | ok ds T =>
    rw [e] at h
    intro Y1 H1 e1 g1 vs rv
    have hz := evalAll_len e
    have hv := rv.len
    exact ⟨Nat.le_of_lt (small1000 (by omega)), fun p hp => (show Pst _ _ _ _ _ (.ok (.tup ds) T) from h).mono e1 |>.fresh g1 hp (Rep.newT hp rv)⟩
theorem pf_lst (h : PaF X U es Fs) (hl : Fs.length ≤ 1000 := by exact Nat.le_of_ble_eq_true rfl) : PeF X U (.List es pos) (dLst Fs) := by
  obtain ⟨ta, p, q⟩ := h
  refine ⟨_, pe_lst p, fun Y S H σ ρ Q g0 rs h => q Y S H σ ρ _ g0 rs ?_⟩
  unfold dLst at h
  cases e : evalAll Fs ρ S with
  | un => rw [e] at h; exact h
  | ex c T => rw [e] at h; exact h
  | ok ds T =>
    rw [e] at h
    intro Y1 H1 e1 g1 vs rv
    have hz := evalAll_len e
    have hv := rv.len
    exact ⟨Nat.le_of_lt (small1000 (by omega)), fun p hp => (show Pst _ _ _ _ _ (.ok (.lst ds) T) from h).mono e1 |>.fresh g1 hp (Rep.newL g1 hp rv)⟩
/-- a new list that will be changed -/
theorem pf_new (h : PaF X U es Fs) (hl : Fs.length ≤ 1000 := by exact Nat.le_of_ble_eq_true rfl) : PeF X U (.List es pos) (dNew Fs) := by
  obtain ⟨ta, p, q⟩ := h
  refine ⟨_, pe_lst p, fun Y S H σ ρ Q g0 rs h => q Y S H σ ρ _ g0 rs ?_⟩
  unfold dNew at h
  cases e : evalAll Fs ρ S with
  | un => rw [e] at h; exact h
  | ex c T => rw [e] at h; exact h
  | ok ds T =>
    rw [e] at h
    intro Y1 H1 e1 g1 vs rv
    have hz := evalAll_len e
    have hv := rv.len
    refine ⟨Nat.le_of_lt (small1000 (by omega)), fun p hp => ?_⟩
    have hx : Ext Y1 H1 (Y1.add p) (upd H1 p (.lst vs)) := Ext.add hp
    have h' : Pst X.K U Y1 H1 (PD X.K Q) (.ok (D.loc T.length) (T ++ [.lst ds])) := Pst.mono (r := .ok (D.loc T.length) (T ++ [.lst ds])) h e1
    refine h' (Y1.add p) _ hx (g1.add hp ⟨vs, upd_same, rv.mono hx⟩) _ (Rep.loc ?_)
    show (Y1.loc ++ [p])[T.length]? = some p
    rw [← g1.len, List.getElem?_append_right (Nat.le_refl _)]
    simp
end
end WF

set_option Elab.async false
set_option linter.all false
set_option maxRecDepth 100000
set_option maxHeartbeats 4000000
/-! # Rules2: the operations on values keep what their denotations say -/
namespace WF
open PySem L2 PyProof.Rows
section
variable {K : PySem.W.Frag} {Y : Lay} {S : Store} {H : Hp} {a : D} {x : V}
theorem lst_read {ds : List D} (g : Good K Y S H) (r : Rep K Y H a x) (h : res S a = .lst ds) : ∃ p xs, x = .ref p ∧ SqL K H p xs ∧ RepL K Y H ds xs := by
  cases r with
  | lst h1 h2 h3 => cases h; exact ⟨_, _, rfl, .inl h1, h3⟩
  | lsk h1 h3 => cases h; exact ⟨_, _, rfl, .inr h1, h3⟩
  | loc hl =>
    rename_i n p
    unfold res at h
    simp only at h
    split at h
    · rename_i es e
      cases h
      obtain ⟨xs, h1, h2⟩ := g.at' n _ p e hl
      exact ⟨p, xs, rfl, .inl (.inl h1), h2⟩
    · cases h
  | _ => cases h
theorem res_ne {S : Store} {d : D} (h : ∀ ds, res S d ≠ .lst ds) : res S d = d := by
  cases d with
  | loc n =>
    unfold res at h ⊢
    simp only at h ⊢
    split
    · rename_i ds e
      exact absurd (by rw [e]) (h ds)
    · rfl
  | _ => rfl
theorem tup_read {ds : List D} (r : Rep K Y H a x) (h : res S a = .tup ds) : ∃ p xs, x = .ref p ∧ SqT K H p xs ∧ RepL K Y H ds xs := by
  have e : res S a = a := res_ne fun es z => by rw [h] at z; cases z
  rw [e] at h
  subst h
  cases r with
  | tup h1 h2 => exact ⟨_, _, rfl, h1, h2⟩
theorem str_read {s : Cs} (r : Rep K Y H a x) (h : res S a = .str s) : x = .str (sv s) := by
  have e : res S a = a := res_ne fun es z => by rw [h] at z; cases z
  rw [e] at h
  subst h
  cases r with
  | str => rfl
end

/-! ### numbers, texts -/
section
variable {X : Cx} {U : Wh}
theorem ite_ok {α : Type} {c : Prop} [Decidable c] {K : PySem.W.Frag} {Y : Lay} {H : Hp} {Φ : α → Store → Lay → Hp → Prop} {r : Res α} (h : Pst K U Y H Φ (if c then r else .un)) : c ∧ Pst K U Y H Φ r := by
  by_cases hc : c
  · rw [if_pos hc] at h; exact ⟨hc, h⟩
  · rw [if_neg hc] at h; exact h.elim
theorem add_listsG {M : Program} {w : World} {A : Around} {E : Value → Shared → Prop} {s : Shared} {l b : Addr} {vs ws : List Value} {Q : Value → Shared → Prop} (hl : s.heap.IsList l vs.toArray) (hb : s.heap.IsList b ws.toArray)
    (h : Q (.ref s.heap.objs.size) { s with heap := s.heap.push { cls := .type "list", data := .seq (vs ++ ws).toArray } }) (hsz : vs.length + ws.length ≤ sizeLine) : wpAny (model M w) A (binaryOp .Add (.ref l) (.ref b)) Q E s := by
  obtain ⟨⟨cls, dd, data, sl⟩, ho, hc, n, hd⟩ := id hl
  obtain ⟨⟨cls2, dd2, data2, sl2⟩, ho2, hc2, n2, hd2⟩ := id hb
  simp only at hc hd hc2 hd2
  subst hc hd hc2 hd2
  have e : vs.toArray ++ ws.toArray = (vs ++ ws).toArray := by simp
  refine concat_meets ⟨_, ho, rfl⟩ ⟨_, ho2, rfl⟩ noFill_list_add seq_list_add PySem.F.slot_list_add PySem.F.entry_list_add (PySem.F.args_list_add_2 _ _) (list_addW l b vs.toArray ws.toArray n n2 dd dd2 sl sl2 (by simpa using hsz)) ⟨ho, ho2, ?_⟩
  rw [e]
  exact h
def rCatL (K : PySem.W.Frag) : R2 := fun x y H Q => ∃ l b xs zs, x = .ref l ∧ y = .ref b ∧ SqL K H l xs ∧ SqL K H b zs ∧ xs.length + zs.length ≤ sizeLine ∧ ∀ p, H p = none → Q (.ref p) (upd H p (.lst (xs ++ zs)))
theorem op_catL : OpR X (binaryOp .Add) (rCatL X.K) := by
  intro pins s σ H x y v u Q I rx ry h
  obtain ⟨l, b, xs, zs, rfl, rfl, hH, hB, hz, q⟩ := h
  cases rx
  cases ry
  obtain ⟨its, r, pl, z⟩ := I.list hH
  obtain ⟨its2, r2, pl2, z2⟩ := I.list hB
  have hl := r.length
  have hl2 := r2.length
  refine add_listsG pl.isList pl2.isList ?_ (by omega)
  exact ⟨.ref _, _, I.lnew (t' := s.toks) (r.append r2) (by rw [List.length_append]; omega), rfl, q _ I.fresh⟩
theorem o_add : OpF X U (binaryOp .Add) gAdd := by
  refine ⟨_, op_add.or (op_add_ib.or (op_add_str.or (op_catA.or op_catL))), fun Y S H a b x y Q g ra rb h => ?_⟩
  unfold gAdd at h
  split at h
  · cases ra; cases rb
    exact .inl ⟨_, _, rfl, rfl, h.val g (.int _)⟩
  · cases ra; cases rb
    exact .inr (.inl ⟨_, _, rfl, rfl, h.val g (.int _)⟩)
  · cases ra; cases rb
    obtain ⟨hc, h⟩ := ite_ok h
    refine .inr (.inr (.inl ⟨_, _, rfl, rfl, by rw [sv_len, sv_len, ← lim_eq]; exact hc, ?_⟩))
    rw [sv_app]
    exact h.val g (.str _)
  · cases ra with
    | tup s1 r1 =>
      cases rb with
      | tup s2 r2 =>
        obtain ⟨hc, h⟩ := ite_ok h
        have l1 := r1.len
        have l2 := r2.len
        refine .inr (.inr (.inr (.inl ⟨_, _, _, _, rfl, rfl, s1, s2, by rw [← lim_eq, ← l1, ← l2]; exact hc, fun e => ?_, fun _ e => ?_, fun _ _ p hp => ?_⟩)))
        · subst e
          cases r1
          exact h.val g (.tup s2 r2)
        · subst e
          cases r2
          rw [List.append_nil] at h
          exact h.val g (.tup s1 r1)
        · exact h.fresh g hp (Rep.newT hp (r1.append r2))
  · obtain ⟨hc, h⟩ := ite_ok h
    obtain ⟨p1, x1, rfl, s1, r1⟩ := lst_read (S := S) g ra rfl
    obtain ⟨p2, x2, rfl, s2, r2⟩ := lst_read (S := S) g rb rfl
    have l1 := r1.len
    have l2 := r2.len
    exact .inr (.inr (.inr (.inr ⟨_, _, _, _, rfl, rfl, s1, s2, by rw [← lim_eq, ← l1, ← l2]; exact hc, fun p hp => h.fresh g hp (Rep.newL g hp (r1.append r2))⟩)))
  · exact h.elim
theorem o_sub : OpF X U (binaryOp .Sub) gSub := by
  refine ⟨_, op_sub, fun Y S H a b x y Q g ra rb h => ?_⟩
  unfold gSub at h
  split at h
  · cases ra; cases rb
    exact ⟨_, _, rfl, rfl, h.val g (.int _)⟩
  · exact h.elim
theorem o_mul : OpF X U (binaryOp .Mult) gMul := by
  refine ⟨_, op_mul, fun Y S H a b x y Q g ra rb h => ?_⟩
  unfold gMul at h
  split at h
  · cases ra; cases rb
    obtain ⟨hc, h⟩ := ite_ok h
    refine ⟨_, _, rfl, rfl, ?_, h.val g (.int _)⟩
    unfold CMul
    unfold two64 at hc
    omega
  · exact h.elim
theorem o_fdiv : OpF X U (binaryOp .FloorDiv) gFdiv := by
  refine ⟨_, op_fdivN, fun Y S H a b x y Q g ra rb h => ?_⟩
  unfold gFdiv at h
  split at h
  · cases ra; cases rb
    obtain ⟨hc, h⟩ := ite_ok h
    exact ⟨_, _, rfl, rfl, hc, h.val g (.int _)⟩
  · exact h.elim
theorem o_mod : OpF X U (binaryOp .Mod) gMod := by
  refine ⟨_, op_modN, fun Y S H a b x y Q g ra rb h => ?_⟩
  unfold gMod at h
  split at h
  · cases ra; cases rb
    obtain ⟨hc, h⟩ := ite_ok h
    exact ⟨_, _, rfl, rfl, hc, h.val g (.int _)⟩
  · exact h.elim
theorem o_pow : OpF X U (binaryOp .Pow) gPow := by
  refine ⟨_, op_pow, fun Y S H a b x y Q g ra rb h => ?_⟩
  unfold gPow at h
  split at h
  · cases ra; cases rb
    obtain ⟨hc, h⟩ := ite_ok h
    exact ⟨_, _, rfl, rfl, ⟨hc.1, by omega, by simpa using hc.2.2⟩, h.val g (.int _)⟩
  · exact h.elim
theorem o_lt : OpF X U (compareOp .Lt) gLt := by
  refine ⟨_, op_lt, fun Y S H a b x y Q g ra rb h => ?_⟩
  unfold gLt at h
  split at h
  · cases ra; cases rb
    exact ⟨_, _, rfl, rfl, h.val g (.bl _)⟩
  · exact h.elim
theorem o_le : OpF X U (compareOp .LtE) gLe := by
  refine ⟨_, op_le, fun Y S H a b x y Q g ra rb h => ?_⟩
  unfold gLe at h
  split at h
  · cases ra; cases rb
    exact ⟨_, _, rfl, rfl, h.val g (.bl _)⟩
  · exact h.elim
theorem o_gt : OpF X U (compareOp .Gt) gGt := by
  refine ⟨_, op_gt, fun Y S H a b x y Q g ra rb h => ?_⟩
  unfold gGt at h
  split at h
  · cases ra; cases rb
    exact ⟨_, _, rfl, rfl, h.val g (.bl _)⟩
  · exact h.elim
theorem o_ge : OpF X U (compareOp .GtE) gGe := by
  refine ⟨_, op_ge, fun Y S H a b x y Q g ra rb h => ?_⟩
  unfold gGe at h
  split at h
  · cases ra; cases rb
    exact ⟨_, _, rfl, rfl, h.val g (.bl _)⟩
  · exact h.elim

/-! ### equality -/
mutual
def toPy : D → PyData
  | .non => .none
  | .bl b => .bool b
  | .int i => .int i
  | .str s => .str (sv s)
  | .tup ds => .tuple (toPys ds)
  | .lst ds => .list (toPys ds)
  | _ => .none
def toPys : List D → List PyData
  | [] => []
  | d :: ds => toPy d :: toPys ds
end
mutual
theorem toPy_plain : ∀ d : D, (toPy d).plain = true
  | .non => rfl
  | .bl _ => rfl
  | .int _ => rfl
  | .str _ => rfl
  | .tup ds => by unfold toPy PyData.plain; exact toPys_plain ds
  | .lst ds => by unfold toPy PyData.plain; exact toPys_plain ds
  | .loc _ => rfl
  | .fn _ _ => rfl
  | .exc _ => rfl
theorem toPys_plain : ∀ ds : List D, PyData.plainAll (toPys ds) = true
  | [] => rfl
  | d :: ds => by unfold toPys PyData.plainAll; rw [toPy_plain d, toPys_plain ds]; rfl
end
mutual
theorem toPy_depth : ∀ d : D, (toPy d).depth = d.depth
  | .non => rfl
  | .bl _ => rfl
  | .int _ => rfl
  | .str _ => rfl
  | .tup ds => by unfold toPy PyData.depth D.depth; rw [toPys_depth ds]
  | .lst ds => by unfold toPy PyData.depth D.depth; rw [toPys_depth ds]
  | .loc _ => rfl
  | .fn _ _ => rfl
  | .exc _ => rfl
theorem toPys_depth : ∀ ds : List D, PyData.depthAll (toPys ds) = D.depths ds
  | [] => rfl
  | d :: ds => by unfold toPys PyData.depthAll D.depths; rw [toPy_depth d, toPys_depth ds]
end
theorem sv_beq (s t : Cs) : (sv s == sv t) = (s == t) := by
  rw [Bool.eq_iff_iff]
  simp [sv_inj]
mutual
theorem toPy_eqv : ∀ a b : D, a.plain = true → b.plain = true → PyData.eqv (toPy a) (toPy b) = a.eqv b
  | .tup xs, .tup ys, ha, hb => by unfold toPy PyData.eqv D.eqv; exact toPys_eqv xs ys (by simpa [D.plain] using ha) (by simpa [D.plain] using hb)
  | .lst xs, .lst ys, ha, hb => by unfold toPy PyData.eqv D.eqv; exact toPys_eqv xs ys (by simpa [D.plain] using ha) (by simpa [D.plain] using hb)
  | .str x, .str y, _, _ => sv_beq x y
  | .non, .non, _, _ => rfl
  | .bl _, .bl _, _, _ => rfl
  | .bl _, .int _, _, _ => rfl
  | .int _, .bl _, _, _ => rfl
  | .int _, .int _, _, _ => rfl
  | .non, .bl _, _, _ => rfl
  | .non, .int _, _, _ => rfl
  | .non, .str _, _, _ => rfl
  | .non, .tup _, _, _ => rfl
  | .non, .lst _, _, _ => rfl
  | .bl _, .non, _, _ => rfl
  | .bl _, .str _, _, _ => rfl
  | .bl _, .tup _, _, _ => rfl
  | .bl _, .lst _, _, _ => rfl
  | .int _, .non, _, _ => rfl
  | .int _, .str _, _, _ => rfl
  | .int _, .tup _, _, _ => rfl
  | .int _, .lst _, _, _ => rfl
  | .str _, .non, _, _ => rfl
  | .str _, .bl _, _, _ => rfl
  | .str _, .int _, _, _ => rfl
  | .str _, .tup _, _, _ => rfl
  | .str _, .lst _, _, _ => rfl
  | .tup _, .non, _, _ => rfl
  | .tup _, .bl _, _, _ => rfl
  | .tup _, .int _, _, _ => rfl
  | .tup _, .str _, _, _ => rfl
  | .tup _, .lst _, _, _ => rfl
  | .lst _, .non, _, _ => rfl
  | .lst _, .bl _, _, _ => rfl
  | .lst _, .int _, _, _ => rfl
  | .lst _, .str _, _, _ => rfl
  | .lst _, .tup _, _, _ => rfl
theorem toPys_eqv : ∀ xs ys : List D, D.plains xs = true → D.plains ys = true → PyData.eqvAll (toPys xs) (toPys ys) = D.eqvs xs ys
  | [], [], _, _ => rfl
  | [], _ :: _, _, _ => rfl
  | _ :: _, [], _, _ => rfl
  | x :: xs, y :: ys, hx, hy => by
    have h1 : x.plain = true ∧ D.plains xs = true := by simpa [D.plains] using hx
    have h2 : y.plain = true ∧ D.plains ys = true := by simpa [D.plains] using hy
    unfold toPys PyData.eqvAll D.eqvs
    rw [toPy_eqv x y h1.1 h2.1, toPys_eqv xs ys h1.2 h2.2]
end
mutual
theorem Rep.dp {K : PySem.W.Frag} {Y : Lay} {H : Hp} : ∀ {d : D} {v : V}, Rep K Y H d v → d.plain = true → Dp K H v (toPy d)
  | _, _, .non, _ => .non
  | _, _, .bl b, _ => .bl b
  | _, _, .int i, _ => .int i
  | _, _, .str s, _ => .str _
  | _, _, .tup h r, p => .tup h (RepL.dp r (by simpa [D.plain] using p))
  | _, _, .lst h _ r, p => .lst (.inl h) (RepL.dp r (by simpa [D.plain] using p))
  | _, _, .lsk h r, p => .lst (.inr h) (RepL.dp r (by simpa [D.plain] using p))
  | _, _, .loc _, p => by cases p
theorem RepL.dp {K : PySem.W.Frag} {Y : Lay} {H : Hp} : ∀ {ds : List D} {vs : List V}, RepL K Y H ds vs → D.plains ds = true → DpAll K H vs (toPys ds)
  | _, _, .nil, _ => .nil
  | _, _, .cons r t, p => by
    unfold D.plains at p
    rw [Bool.and_eq_true] at p
    unfold toPys
    exact .cons (Rep.dp r p.1) (RepL.dp t p.2)
end
theorem res_dp {K : PySem.W.Frag} {Y : Lay} {S : Store} {H : Hp} {a : D} {x : V} (g : Good K Y S H) (r : Rep K Y H a x) (h : (res S a).plain = true) : Dp K H x (toPy (res S a)) := by
  cases e : res S a with
  | lst ds =>
    obtain ⟨p, xs, rfl, h1, h2⟩ := lst_read g r e
    rw [e] at h
    exact .lst h1 (h2.dp (by simpa [D.plain] using h))
  | _ =>
    have e' : res S a = a := res_ne fun ds z => by rw [e] at z; cases z
    rw [← e, e']
    rw [e'] at h
    exact r.dp h
def rEqP (K : PySem.W.Frag) : R2 := fun x y H Q => ∃ d e, Dp K H x d ∧ Dp K H y e ∧ d.plain = true ∧ e.plain = true ∧ min d.depth e.depth ≤ 60 ∧ Q (.bl (PyData.eqv d e)) H
def rNeP (K : PySem.W.Frag) : R2 := fun x y H Q => ∃ d e, Dp K H x d ∧ Dp K H y e ∧ d.plain = true ∧ e.plain = true ∧ min d.depth e.depth ≤ 60 ∧ Q (.bl (!PyData.eqv d e)) H
theorem op_eqP (hu : X.A.units + 64 < cLine) : OpR X (compareOp .Eq) (rEqP X.K) := by
  intro pins s σ H x y v u Q I rx ry h
  obtain ⟨d, e, hd, he, sd, se, hz, q⟩ := h
  obtain ⟨as, r1⟩ := Dp.reads I d x v hd rx
  obtain ⟨bs, r2⟩ := Dp.reads I e y u he ry
  exact SeqAt.eq_plain r1 r2 sd se (by omega) ⟨.bl _, H, I, rfl, q⟩
theorem op_neP (hu : X.A.units + 64 < cLine) : OpR X (compareOp .NotEq) (rNeP X.K) := by
  intro pins s σ H x y v u Q I rx ry h
  obtain ⟨d, e, hd, he, sd, se, hz, q⟩ := h
  obtain ⟨as, r1⟩ := Dp.reads I d x v hd rx
  obtain ⟨bs, r2⟩ := Dp.reads I e y u he ry
  exact SeqAt.ne_plain r1 r2 sd se (by omega) ⟨.bl _, H, I, rfl, q⟩
theorem o_eq (hu : X.A.units + 64 < cLine) : OpF X U (compareOp .Eq) gEq := by
  refine ⟨_, op_eqP hu, fun Y S H a b x y Q g ra rb h => ?_⟩
  unfold gEq at h
  obtain ⟨hc, h⟩ := ite_ok h
  simp only [Bool.and_eq_true, decide_eq_true_eq] at hc
  obtain ⟨⟨h1, h2⟩, h3⟩ := hc
  refine ⟨_, _, res_dp g ra h1, res_dp g rb h2, toPy_plain _, toPy_plain _, by rw [toPy_depth, toPy_depth]; exact h3, ?_⟩
  rw [toPy_eqv _ _ h1 h2]
  exact h.val g (.bl _)
theorem o_ne (hu : X.A.units + 64 < cLine) : OpF X U (compareOp .NotEq) gNe := by
  refine ⟨_, op_neP hu, fun Y S H a b x y Q g ra rb h => ?_⟩
  unfold gNe gEq at h
  by_cases hc : ((res S a).plain && (res S b).plain && decide (min (res S a).depth (res S b).depth ≤ 60)) = true
  · simp only [hc, if_true, Res.ok_bind] at h
    simp only [Bool.and_eq_true, decide_eq_true_eq] at hc
    obtain ⟨⟨h1, h2⟩, h3⟩ := hc
    refine ⟨_, _, res_dp g ra h1, res_dp g rb h2, toPy_plain _, toPy_plain _, by rw [toPy_depth, toPy_depth]; exact h3, ?_⟩
    rw [toPy_eqv _ _ h1 h2]
    exact h.val g (.bl _)
  · simp only [hc] at h
    exact h.elim

/-! ### in, not in -/
theorem subIn_iff (v : Cs) : ∀ t : Cs, subIn v t = true ↔ ∃ i, i + v.length ≤ t.length ∧ (t.drop i).take v.length = v
  | [] => by
    unfold subIn
    constructor
    · intro h
      have : v = [] := by simpa using h
      subst this
      exact ⟨0, by simp, by simp⟩
    · rintro ⟨i, h1, h2⟩
      have : v = [] := by
        have : v.length = 0 := by
          have : ([] : Cs).length = 0 := rfl
          omega
        exact List.length_eq_zero_iff.mp this
      simp [this]
  | c :: t => by
    unfold subIn
    rw [Bool.or_eq_true, subIn_iff v t]
    constructor
    · rintro (h | ⟨i, h1, h2⟩)
      · obtain ⟨r, hr⟩ := List.isPrefixOf_iff_prefix.mp h
        exact ⟨0, by rw [← hr]; simp, by rw [← hr]; simp⟩
      · exact ⟨i + 1, by simp at h1 ⊢; omega, by simpa using h2⟩
    · rintro ⟨i, h1, h2⟩
      cases i with
      | zero =>
        left
        rw [List.isPrefixOf_iff_prefix]
        exact ⟨(c :: t).drop v.length, by
          have := List.take_append_drop v.length (c :: t)
          simp only [List.drop_zero] at h2
          rw [h2] at this
          exact this⟩
      | succ i => exact .inr ⟨i, by simp at h1 ⊢; omega, by simpa using h2⟩
theorem occ_in (v t : Cs) : (!(Builtin.Str.occurrences (sv t) (sv v) 0 (sv t).length 1).isEmpty) = subIn v t := by
  rw [Bool.eq_iff_iff, StrLaws.found_iff, subIn_iff]
  constructor
  · rintro ⟨i, h1, h2⟩
    rw [sv_len, sv_len] at h1
    rw [StrLaws.subAt_eq] at h2
    refine ⟨i, h1, ?_⟩
    simpa [sv_len] using h2
  · rintro ⟨i, h1, h2⟩
    refine ⟨i, by rw [sv_len, sv_len]; exact h1, ?_⟩
    rw [StrLaws.subAt_eq]
    simpa [sv_len] using h2
theorem toPys_any (x : D) (hx : x.plain = true) : ∀ ds : List D, D.plains ds = true → ((toPys ds).any fun z => PyData.eqv z (toPy x)) = ds.any fun y => y.eqv x
  | [], _ => rfl
  | d :: ds, h => by
    have h1 : d.plain = true ∧ D.plains ds = true := by simpa [D.plains] using h
    unfold toPys
    rw [List.any_cons, List.any_cons, toPy_eqv d x h1.1 hx, toPys_any x hx ds h1.2]
def rInP (K : PySem.W.Frag) (neg : Bool) : R2 := fun x y H Q => ∃ d ds, Dp K H x d ∧ (Dp K H y (.list ds) ∨ Dp K H y (.tuple ds)) ∧ d.plain = true ∧ PyData.plainAll ds = true ∧ d.depth ≤ 60 ∧
  Q (.bl (if neg then !ds.any fun z => PyData.eqv z d else ds.any fun z => PyData.eqv z d)) H
theorem op_inP (hu : X.A.units + 64 < cLine) : OpR X (compareOp .In) (rInP X.K false) := by
  intro pins s σ H x y v u Q I rx ry h
  obtain ⟨d, ds, hd, he, sd, se, hz, q⟩ := h
  obtain ⟨as, r1⟩ := Dp.reads I d x v hd rx
  rcases he with he | he
  · obtain ⟨bs, r2⟩ := Dp.reads I _ y u he ry
    exact SeqAt.in_list_data r2 r1 se sd (by omega) ⟨.bl _, H, I, rfl, q⟩
  · obtain ⟨bs, r2⟩ := Dp.reads I _ y u he ry
    exact SeqAt.in_tuple_data r2 r1 se sd (by omega) ⟨.bl _, H, I, rfl, q⟩
theorem op_notInP (hu : X.A.units + 64 < cLine) : OpR X (compareOp .NotIn) (rInP X.K true) := by
  intro pins s σ H x y v u Q I rx ry h
  obtain ⟨d, ds, hd, he, sd, se, hz, q⟩ := h
  obtain ⟨as, r1⟩ := Dp.reads I d x v hd rx
  rcases he with he | he
  · obtain ⟨bs, r2⟩ := Dp.reads I _ y u he ry
    exact SeqAt.notIn_list_data r2 r1 se sd (by omega) ⟨.bl _, H, I, rfl, q⟩
  · obtain ⟨bs, r2⟩ := Dp.reads I _ y u he ry
    exact SeqAt.notIn_tuple_data r2 r1 se sd (by omega) ⟨.bl _, H, I, rfl, q⟩
/-- what gIn gives -/
theorem gIn_cases {K : PySem.W.Frag} {Y : Lay} {S : Store} {H : Hp} {a b : D} {x y : V} (g : Good K Y S H) (ra : Rep K Y H a x) (rb : Rep K Y H b y) :
    (gIn a b S = .un) ∨ (∃ v t, x = .str (sv v) ∧ y = .str (sv t) ∧ gIn a b S = .ok (.bl (subIn v t)) S) ∨
      ∃ d ds, Dp K H x (toPy d) ∧ d.plain = true ∧ (Dp K H y (.list (toPys ds)) ∨ Dp K H y (.tuple (toPys ds))) ∧ D.plains ds = true ∧ d.depth ≤ 60 ∧ gIn a b S = .ok (.bl (ds.any fun z => z.eqv d)) S := by
  unfold gIn
  simp only
  split
  · rename_i v t e1 e2
    exact .inr (.inl ⟨v, t, str_read ra e1, str_read rb e2, rfl⟩)
  · rename_i ds e2
    by_cases hc : ((res S a).plain && D.plains ds && decide ((res S a).depth ≤ 60)) = true
    · rw [if_pos hc]
      simp only [Bool.and_eq_true, decide_eq_true_eq] at hc
      obtain ⟨p, xs, rfl, h1, h2⟩ := tup_read rb e2
      exact .inr (.inr ⟨_, ds, res_dp g ra hc.1.1, hc.1.1, .inr (.tup h1 (h2.dp hc.1.2)), hc.1.2, hc.2, rfl⟩)
    · rw [if_neg hc]; exact .inl rfl
  · rename_i ds e2
    by_cases hc : ((res S a).plain && D.plains ds && decide ((res S a).depth ≤ 60)) = true
    · rw [if_pos hc]
      simp only [Bool.and_eq_true, decide_eq_true_eq] at hc
      obtain ⟨p, xs, rfl, h1, h2⟩ := lst_read g rb e2
      exact .inr (.inr ⟨_, ds, res_dp g ra hc.1.1, hc.1.1, .inl (.lst h1 (h2.dp hc.1.2)), hc.1.2, hc.2, rfl⟩)
    · rw [if_neg hc]; exact .inl rfl
  · exact .inl rfl
theorem o_in (hu : X.A.units + 64 < cLine) : OpF X U (compareOp .In) gIn := by
  refine ⟨_, op_in_str.or (op_inP hu), fun Y S H a b x y Q g ra rb h => ?_⟩
  rcases gIn_cases g ra rb with e | ⟨v, t, rfl, rfl, e⟩ | ⟨d, ds, h1, h2, h3, h4, h5, e⟩
  · rw [e] at h; exact h.elim
  · rw [e] at h
    refine .inl ⟨_, _, rfl, rfl, ?_⟩
    rw [occ_in]
    exact h.val g (.bl _)
  · rw [e] at h
    refine .inr ⟨_, _, h1, h3, toPy_plain _, toPys_plain _, by rw [toPy_depth]; exact h5, ?_⟩
    rw [toPys_any d h2 ds h4]
    exact h.val g (.bl _)
theorem o_notIn (hu : X.A.units + 64 < cLine) : OpF X U (compareOp .NotIn) gNotIn := by
  refine ⟨_, op_notin_str.or (op_notInP hu), fun Y S H a b x y Q g ra rb h => ?_⟩
  unfold gNotIn at h
  rcases gIn_cases g ra rb with e | ⟨v, t, rfl, rfl, e⟩ | ⟨d, ds, h1, h2, h3, h4, h5, e⟩
  · rw [e] at h; exact h.elim
  · rw [e] at h
    refine .inl ⟨_, _, rfl, rfl, ?_⟩
    rw [occ_in]
    exact h.val g (.bl _)
  · rw [e] at h
    refine .inr ⟨_, _, h1, h3, toPy_plain _, toPys_plain _, by rw [toPy_depth]; exact h5, ?_⟩
    rw [toPys_any d h2 ds h4]
    exact h.val g (.bl _)
end
end WF

set_option Elab.async false
set_option linter.all false
set_option maxRecDepth 100000
set_option maxHeartbeats 4000000
/-! # Rules3: subscripts, slices, built-in functions, methods of texts -/
namespace WF
open PySem L2 PyProof.Rows
section
variable {X : Cx} {U : Wh} {a b e : Expr} {Fa Fb Fc : FE} {pos : Pos}

/-! ### subscripts -/
theorem RepL.at' {K : PySem.W.Frag} {Y : Lay} {H : Hp} {ds : List D} {vs : List V} {i : Int} {d : D} (r : RepL K Y H ds vs) (h : WF.atI ds i = some d) : ∃ v, L2.atI vs i = some v ∧ Rep K Y H d v := by
  unfold WF.atI at h
  cases e : WF.ixN ds.length i with
  | none => rw [e] at h; cases h
  | some j =>
    rw [e] at h
    obtain ⟨v, h1, h2⟩ := r.get (i := j) (d := d) h
    refine ⟨v, ?_, h2⟩
    unfold L2.atI
    have e' : L2.ixN vs.length i = some j := by rw [← r.len]; exact e
    rw [e']
    exact h1
theorem pf_ix (ha : PeF X U a Fa) (hb : PeF X U b Fb) (hs : PlainIx b := by exact fun _ _ => rfl) : PeF X U (.Subscript a b pos) (dBin gIdx Fa Fb) := by
  obtain ⟨ta, p1, q1⟩ := ha
  obtain ⟨tb, p2, q2⟩ := hb
  refine ⟨_, pe_ix ix_seq p1 p2 hs, DE.op q1 q2 fun Y S H a b x y Q g ra rb h => ?_⟩
  unfold gIdx at h
  split at h
  · rename_i ds i e
    cases rb
    split at h
    · rename_i d hd
      obtain ⟨p, xs, rfl, h1, h2⟩ := tup_read ra e
      obtain ⟨v, h3, h4⟩ := h2.at' hd
      exact .inr (.inl ⟨p, xs, i, v, rfl, rfl, h1, h3, h.val g h4⟩)
    · exact h.elim
  · rename_i ds i e
    cases rb
    split at h
    · rename_i d hd
      obtain ⟨p, xs, rfl, h1, h2⟩ := lst_read g ra e
      obtain ⟨v, h3, h4⟩ := h2.at' hd
      exact .inl ⟨p, xs, i, v, rfl, rfl, h1, h3, h.val g h4⟩
    · exact h.elim
  · rename_i s i e
    cases rb
    have e' := str_read ra e
    subst e'
    obtain ⟨hl, h⟩ := ite_ok h
    split at h
    · rename_i c hc
      refine .inr (.inr ⟨_, i, c, rfl, rfl, by rw [sv_len, ← lim_eq]; exact hl, hc, h.val g (.str [c])⟩)
    · exact h.elim
  · exact h.elim

/-! ### slices -/
def DO (K : PySem.W.Frag) (U : Wh) (to : TO) (F : Env → M (Option Int)) : Prop :=
  ∀ Y S H σ ρ Q, Good K Y S H → RepS K Y H ρ σ → Pst K U Y H (fun o _ _ H' => Q o H') (F ρ S) → to σ H Q
structure PoF (X : Cx) (U : Wh) (e : Option Expr) (F : Env → M (Option Int)) : Prop where
  ex : ∃ to, PO X e to ∧ DO X.K U to F
theorem pof_none : PoF X U none dNoPart := ⟨_, po_none, fun Y S H σ ρ Q g rs h => h.now g⟩
theorem pof_some (ha : PeF X U a Fa) : PoF X U (some a) (dPart Fa) := by
  obtain ⟨ta, p, q⟩ := ha
  refine ⟨_, po_some p, fun Y S H σ ρ Q g rs h => q Y S H σ ρ _ g rs ((Pst.bind h).imp fun d S1 Y1 H1 e1 g1 h1 x rx => ?_)⟩
  cases rx with
  | int i => exact ⟨i, rfl, h1.now g1⟩
  | _ => exact h1.elim
theorem cut_rep {K : PySem.W.Frag} {Y : Lay} {H : Hp} {ds : List D} {vs : List V} (r : RepL K Y H ds vs) (lo hi : Option Int) : RepL K Y H (cut ds lo hi) (cutV vs lo hi) := by
  unfold cut cutV
  have e : ∀ (n d : Nat) (o : Option Int), WF.sIx n d o = HT.sIx n d o := fun n d o => by cases o <;> rfl
  rw [e, e, r.len]
  exact (r.drop _).take _
theorem cut_whole {K : PySem.W.Frag} {Y : Lay} {H : Hp} {ds : List D} {vs : List V} (r : RepL K Y H ds vs) {lo hi : Option Int} (h : HT.sIx vs.length 0 lo = 0 ∧ HT.sIx vs.length vs.length hi = vs.length) : cut ds lo hi = ds := by
  unfold cut
  have e : ∀ (n d : Nat) (o : Option Int), WF.sIx n d o = HT.sIx n d o := fun n d o => by cases o <;> rfl
  rw [e, e, r.len, h.1, h.2, List.drop_zero, Nat.sub_zero, ← r.len, List.take_length]
variable {Lo Hi : Env → M (Option Int)} {lo hi : Option Expr} {p2 : Pos}
theorem pf_slice (ha : PeF X U a Fa) (hl : PoF X U lo Lo) (hh : PoF X U hi Hi) : PeF X U (.Subscript a (.Slice lo hi none p2) pos) (dSlice Fa Lo Hi) := by
  obtain ⟨ta, p1, q1⟩ := ha
  obtain ⟨tl, p3, q3⟩ := hl
  obtain ⟨th, p4, q4⟩ := hh
  refine ⟨_, pe_slice (sl_list.or (sl_tupA.or sl_str)) p1 p3 p4, fun Y S H σ ρ Q g rs h => q1 Y S H σ ρ _ g rs ((Pst.bind h).imp fun d S1 Y1 H1 e1 g1 h1 x rx =>
    q3 Y1 S1 H1 σ ρ _ g1 (rs.mono e1) ((Pst.bind h1).imp fun l S2 Y2 H2 e2 g2 h2 => q4 Y2 S2 H2 σ ρ _ g2 ((rs.mono e1).mono e2) ((Pst.bind h2).imp fun u S3 Y3 H3 e3 g3 h3 => ?_)))⟩
  have rx3 := rx.mono (e2.trans e3)
  unfold gSlice at h3
  split at h3
  · rename_i ds e
    obtain ⟨p, xs, rfl, k1, k2⟩ := tup_read rx3 e
    refine .inr (.inl ⟨p, xs, rfl, k1, fun w => ?_, fun _ p' hp => h3.fresh g3 hp (Rep.newT hp (cut_rep k2 l u))⟩)
    rw [cut_whole k2 w] at h3
    exact h3.val g3 (.tup k1 k2)
  · rename_i ds e
    obtain ⟨p, xs, rfl, k1, k2⟩ := lst_read g3 rx3 e
    exact .inl ⟨p, xs, rfl, k1, fun p' hp => h3.fresh g3 hp (Rep.newL g3 hp (cut_rep k2 l u))⟩
  · rename_i s e
    have e' := str_read rx3 e
    subst e'
    obtain ⟨hz, h3⟩ := ite_ok h3
    refine .inr (.inr ⟨_, rfl, by rw [sv_len, ← lim_eq]; exact hz, ?_⟩)
    have es : cutS (sv s) l u = sv (cut s l u) := by
      unfold cutS cut
      rw [sv_len]
      have e : ∀ (n d : Nat) (o : Option Int), WF.sIx n d o = HT.sIx n d o := fun n d o => by cases o <;> rfl
      rw [e, e]
    rw [es]
    exact h3.val g3 (.str _)
  · exact h3.elim

/-! ### built-in functions -/
def CallF (X : Cx) (U : Wh) (f : Value) (g : FF) : Prop :=
  ∃ r, CallR X f r ∧ ∀ Y S H ds xs Q, Good X.K Y S H → RepL X.K Y H ds xs → Pst X.K U Y H (PD X.K Q) (g ds S) → r xs H Q
theorem DE.cb {K : PySem.W.Frag} {ta : TA} {Fs : List FE} {r : List V → Hp → VK → Prop} {g : FF} (ha : DA K U ta Fs)
    (hr : ∀ Y S H ds xs Q, Good K Y S H → RepL K Y H ds xs → Pst K U Y H (PD K Q) (g ds S) → r xs H Q) : DE K U (tCB r ta) (dCall g Fs) := fun Y S H σ ρ Q g0 rs h =>
  ha Y S H σ ρ _ g0 rs ((Pst.bind h).imp fun ds S1 Y1 H1 e1 g1 h1 vs rv => hr Y1 S1 H1 ds vs Q g1 rv h1)
variable {es : List Expr} {Fs : List FE} {g : FF}
theorem pf_callB {x : PySem.Str} {id : String} {p : Pos} (hc : CallF X U (.builtin id) g) (hm : X.mg x = none) (hv : bootBuiltins x = some (.builtin id)) (ha : PaF X U (e :: es) Fs) (hg : Gl X x := by rfl) (hn : x ≠ "__name__" := by decide) (hdb : (x == ("__debug__" : PySem.Str)) = false := by decide)
    (he : starEach (e :: es) X.env = (false, eval e X.env) :: starEach es X.env := by rfl) (hpl : (backTo pos (starEach es X.env)).any (·.1) = false := by rfl) : PeF X U (.Call (.Name x p) (e :: es) [] pos) (dCall g Fs) := by
  obtain ⟨ta, p1, q1⟩ := ha
  obtain ⟨r, hr, h⟩ := hc
  exact ⟨_, pe_callB hr hg hm hv p1 hn hdb he hpl, DE.cb q1 h⟩
theorem pf_callTy {x : PySem.Str} {T : String} {p : Pos} (hc : CallF X U (.type T) g) (hm : X.mg x = none) (hv : bootBuiltins x = some (.type T)) (ha : PaF X U (e :: es) Fs) (hg : Gl X x := by rfl) (hn : x ≠ "__name__" := by decide) (hdb : (x == ("__debug__" : PySem.Str)) = false := by decide)
    (he : starEach (e :: es) X.env = (false, eval e X.env) :: starEach es X.env := by rfl) (hpl : (backTo pos (starEach es X.env)).any (·.1) = false := by rfl) : PeF X U (.Call (.Name x p) (e :: es) [] pos) (dCall g Fs) := by
  obtain ⟨ta, p1, q1⟩ := ha
  obtain ⟨r, hr, h⟩ := hc
  exact ⟨_, pe_callTy hr hg hm hv p1 hn hdb he hpl, DE.cb q1 h⟩
theorem c_len : CallF X U (.builtin "len") (f1 bLen) := by
  refine ⟨_, call_len, fun Y S H ds xs Q g r h => ?_⟩
  unfold f1 at h
  split at h
  · cases r with
    | cons ra rn =>
      cases rn
      unfold bLen at h
      split at h
      · rename_i ds e
        obtain ⟨p, xs, rfl, k1, k2⟩ := tup_read ra e
        exact ⟨_, ds.length, rfl, .inr ⟨xs, k1, k2.len⟩, h.val g (.int _)⟩
      · rename_i ds e
        obtain ⟨p, xs, rfl, k1, k2⟩ := lst_read g ra e
        exact ⟨_, ds.length, rfl, .inl ⟨xs, k1, k2.len⟩, h.val g (.int _)⟩
      · rename_i s e
        have e' := str_read ra e
        subst e'
        obtain ⟨hz, h⟩ := ite_ok h
        exact ⟨_, s.length, rfl, ⟨by rw [sv_len, ← lim_eq]; exact hz, (sv_len s).symm⟩, h.val g (.int _)⟩
      · exact h.elim
  · exact h.elim
/-! isinstance -/
def tyName : Ty → String
  | .int => "int"
  | .bool => "bool"
  | .str => "str"
  | .tuple => "tuple"
def tyOfD : D → String
  | .non => "NoneType"
  | .bl _ => "bool"
  | .int _ => "int"
  | .str _ => "str"
  | .tup _ => "tuple"
  | _ => "list"
theorem kit_tab : ∀ (t : Ty) (d : D) (b : Bool), isTy t d = some b → kitB (tyOfD d) (tyName t) = some b := by
  have k : ∀ t : Ty, kitB "NoneType" (tyName t) = some false ∧ kitB "bool" (tyName t) = some (t == .int || t == .bool) ∧ kitB "int" (tyName t) = some (t == .int) ∧ kitB "str" (tyName t) = some (t == .str) ∧
      kitB "tuple" (tyName t) = some (t == .tuple) ∧ kitB "list" (tyName t) = some false := by
    intro t
    cases t <;> decide +kernel
  intro t d b h
  obtain ⟨k1, k2, k3, k4, k5, k6⟩ := k t
  cases d with
  | non => cases t <;> cases h <;> exact k1
  | bl _ => cases t <;> cases h <;> exact k2
  | int _ => cases t <;> cases h <;> exact k3
  | str _ => cases t <;> cases h <;> exact k4
  | tup _ => cases t <;> cases h <;> exact k5
  | lst _ => cases t <;> cases h <;> exact k6
  | _ => cases t <;> cases h
theorem tyX_of {K : PySem.W.Frag} {Y : Lay} {S : Store} {H : Hp} {a : D} {x : V} {t : Ty} {k : Bool} (g : Good K Y S H) (r : Rep K Y H a x) (h : isTy t (res S a) = some k) : TyX K H x (.type (tyOfD (res S a))) := by
  have lst : ∀ {p : Addr} {xs : List V}, SqL K H p xs → TyX K H (.ref p) (.type "list") := fun {p xs} q => by
    rcases q with (q | ⟨o, q⟩) | ⟨o, its, n, q, c, _⟩
    · exact .base (.lst q)
    · exact .base (.frz q)
    · exact .kList q c
  cases r with
  | non => exact .base .non
  | bl b => exact .base (.bl b)
  | int i => exact .base (.int i)
  | str s => exact .base (.str _)
  | tup hs hr =>
    rcases hs with (q | ⟨o, q⟩) | ⟨o, its, n, q, c, _⟩
    · exact .base (.tup q)
    · exact .fTuple q
    · exact .kTuple q c
  | lst hs _ hr => exact lst (.inl hs)
  | lsk hs hr => exact lst (.inr hs)
  | loc hl =>
    rename_i n p
    cases e : res S (.loc n) with
    | lst ds =>
      obtain ⟨p', xs, e', h1, h2⟩ := lst_read g (Rep.loc hl) e
      cases e'
      exact lst h1
    | _ =>
      have e' : res S (.loc n) = .loc n := res_ne fun ds z => by rw [e] at z; cases z
      rw [e'] at h
      cases t <;> cases h
/-- isinstance(e, T) -/
theorem pf_isi (t : Ty) {T : PySem.Str} {p p2 : Pos} (ha : PeF X U a Fa) (hm : X.mg "isinstance" = none) (hmT : X.mg T = none) (hvT : bootBuiltins T = some (.type (tyName t))) (hg : Gl X "isinstance" := by rfl) (hgT : Gl X T := by rfl)
    (hn : T ≠ "__name__" := by decide) (hd : (T == ("__debug__" : PySem.Str)) = false := by decide)
    (h1 : starEach [.Name T p2] X.env = (false, eval (.Name T p2) X.env) :: starEach [] X.env := by rfl) (h2 : starEach [a, .Name T p2] X.env = (false, eval a X.env) :: starEach [.Name T p2] X.env := by rfl)
    (hpl : (backTo pos (starEach [.Name T p2] X.env)).any (·.1) = false := by rfl) :
    PeF X U (.Call (.Name "isinstance" p) [a, .Name T p2] [] pos) (dUn (bIsi t) Fa) := by
  obtain ⟨ta, p1, q1⟩ := ha
  refine ⟨_, pe_callB call_isi hg hm (by decide +kernel) (pa_cons p1 (pa_cons (pe_bltn (v := .ty (tyName t)) hgT hmT hvT rfl hn hd) pa_nil h1) h2) (by decide) (by decide) h2 hpl, fun Y S H σ ρ Q g rs h =>
    q1 Y S H σ ρ _ g rs ((Pst.bind h).imp fun d S1 Y1 H1 e1 g1 h1 x rx => ?_)⟩
  unfold bIsi at h1
  split at h1
  · rename_i k e
    exact ⟨x, .ty (tyName t), .type (tyOfD (res S1 d)), .type (tyName t), k, rfl, .ty _, tyX_of g1 rx e, kit_ty (kit_tab t _ k e), h1.val g1 (.bl _)⟩
  · exact h1.elim

/-! all, any, sum, max -/
theorem boolsOf_rep {K : PySem.W.Frag} {Y : Lay} {H : Hp} : ∀ {ds : List D} {vs : List V} {bs : List Bool}, RepL K Y H ds vs → boolsOf ds = some bs → vs = bs.map V.bl
  | _, _, bs, .nil, h => by cases h; rfl
  | _, _, bs, .cons (d := d) (ds := ds) r t, h => by
    cases r with
    | bl b =>
      unfold boolsOf at h
      cases e : boolsOf ds with
      | none => rw [e] at h; cases h
      | some cs =>
        rw [e] at h
        cases h
        rw [boolsOf_rep t e]; rfl
    | _ => cases h
theorem intsOf_rep {K : PySem.W.Frag} {Y : Lay} {H : Hp} : ∀ {ds : List D} {vs : List V} {bs : List Int}, RepL K Y H ds vs → intsOf ds = some bs → vs = bs.map V.int
  | _, _, bs, .nil, h => by cases h; rfl
  | _, _, bs, .cons (d := d) (ds := ds) r t, h => by
    cases r with
    | int b =>
      unfold intsOf at h
      cases e : intsOf ds with
      | none => rw [e] at h; cases h
      | some cs =>
        rw [e] at h
        cases h
        rw [intsOf_rep t e]; rfl
    | _ => cases h
theorem strsOf_rep {K : PySem.W.Frag} {Y : Lay} {H : Hp} : ∀ {ds : List D} {vs : List V} {bs : List Cs}, RepL K Y H ds vs → strsOf ds = some bs → vs = (bs.map sv).map V.str
  | _, _, bs, .nil, h => by cases h; rfl
  | _, _, bs, .cons (d := d) (ds := ds) r t, h => by
    cases r with
    | str b =>
      unfold strsOf at h
      cases e : strsOf ds with
      | none => rw [e] at h; cases h
      | some cs =>
        rw [e] at h
        cases h
        rw [strsOf_rep t e]; rfl
    | _ => cases h
theorem lstOf_read {K : PySem.W.Frag} {Y : Lay} {S : Store} {H : Hp} {a : D} {x : V} {ds : List D} (g : Good K Y S H) (r : Rep K Y H a x) (h : lstOf S a = some ds) : ∃ p xs, x = .ref p ∧ SqL K H p xs ∧ RepL K Y H ds xs := by
  unfold lstOf at h
  split at h
  · rename_i es e
    cases h
    exact lst_read g r e
  · cases h
theorem c_all (hc : X.calm = true) : CallF X U (.builtin "all") (f1 bAll) := by
  refine ⟨_, cr_all hc, fun Y S H ds xs Q g r h => ?_⟩
  unfold f1 at h
  split at h
  · cases r with
    | cons ra rn =>
      cases rn
      unfold bAll at h
      split at h
      · rename_i bs e
        obtain ⟨es, e1, e2⟩ := Option.bind_eq_some_iff.mp e
        obtain ⟨p, xs, rfl, k1, k2⟩ := lstOf_read g ra e1
        have e3 := boolsOf_rep k2 e2
        subst e3
        exact ⟨p, bs, rfl, k1, h.val g (.bl _)⟩
      · exact h.elim
  · exact h.elim
theorem c_any (hc : X.calm = true) : CallF X U (.builtin "any") (f1 bAny) := by
  refine ⟨_, cr_any hc, fun Y S H ds xs Q g r h => ?_⟩
  unfold f1 at h
  split at h
  · cases r with
    | cons ra rn =>
      cases rn
      unfold bAny at h
      split at h
      · rename_i bs e
        obtain ⟨es, e1, e2⟩ := Option.bind_eq_some_iff.mp e
        obtain ⟨p, xs, rfl, k1, k2⟩ := lstOf_read g ra e1
        have e3 := boolsOf_rep k2 e2
        subst e3
        exact ⟨p, bs, rfl, k1, h.val g (.bl _)⟩
      · exact h.elim
  · exact h.elim
theorem c_sum (hc : X.calm = true) : CallF X U (.builtin "sum") (f1 bSum) := by
  refine ⟨_, cr_sum hc, fun Y S H ds xs Q g r h => ?_⟩
  unfold f1 at h
  split at h
  · cases r with
    | cons ra rn =>
      cases rn
      unfold bSum at h
      split at h
      · rename_i bs e
        obtain ⟨es, e1, e2⟩ := Option.bind_eq_some_iff.mp e
        obtain ⟨p, xs, rfl, k1, k2⟩ := lstOf_read g ra e1
        have e3 := intsOf_rep k2 e2
        subst e3
        exact ⟨p, bs, rfl, k1, h.val g (.int _)⟩
      · exact h.elim
  · exact h.elim
theorem foldl_max (xs : List Int) : ∀ x : Int, (xs.foldl (fun a b => if a < b then b else a) x ∈ x :: xs) ∧ ∀ y ∈ x :: xs, y ≤ xs.foldl (fun a b => if a < b then b else a) x := by
  induction xs with
  | nil => intro x; simp
  | cons z zs ih =>
    intro x
    rw [List.foldl_cons]
    have hw : x ≤ (if x < z then z else x) ∧ z ≤ (if x < z then z else x) ∧ ((if x < z then z else x) = x ∨ (if x < z then z else x) = z) := by
      by_cases h : x < z
      · rw [if_pos h]; exact ⟨Int.le_of_lt h, Int.le_refl _, .inr rfl⟩
      · rw [if_neg h]; exact ⟨Int.le_refl _, by omega, .inl rfl⟩
    generalize (if x < z then z else x) = w at hw
    obtain ⟨h1, h2⟩ := ih w
    have hm := h2 w List.mem_cons_self
    constructor
    · rcases List.mem_cons.mp h1 with h | h
      · rw [h]
        rcases hw.2.2 with e | e <;> simp [e]
      · exact List.mem_cons_of_mem _ (List.mem_cons_of_mem _ h)
    · intro y hy
      rcases List.mem_cons.mp hy with rfl | hy
      · omega
      · rcases List.mem_cons.mp hy with rfl | hy
        · omega
        · exact h2 y (List.mem_cons_of_mem _ hy)
theorem maxL_spec {ns : List Int} {m : Int} (h : maxL ns = some m) : m ∈ ns ∧ ∀ y ∈ ns, y ≤ m := by
  cases ns with
  | nil => cases h
  | cons x xs => cases h; exact foldl_max xs x
theorem c_max (hc : X.calm = true) : CallF X U (.builtin "max") (f1 bMax) := by
  refine ⟨_, cr_max hc, fun Y S H ds xs Q g r h => ?_⟩
  unfold f1 at h
  split at h
  · cases r with
    | cons ra rn =>
      cases rn
      unfold bMax at h
      split at h
      · rename_i m e
        obtain ⟨bs, e0, em⟩ := Option.bind_eq_some_iff.mp e
        obtain ⟨es, e1, e2⟩ := Option.bind_eq_some_iff.mp e0
        obtain ⟨p, xs, rfl, k1, k2⟩ := lstOf_read g ra e1
        have e3 := intsOf_rep k2 e2
        subst e3
        obtain ⟨m1, m2⟩ := maxL_spec em
        refine ⟨p, bs, rfl, k1, List.length_pos_of_mem m1, fun m' h1 h2 => ?_⟩
        have : m' = m := Int.le_antisymm (m2 _ h1) (h2 _ m1)
        rw [this]
        exact h.val g (.int _)
      · exact h.elim
  · exact h.elim
theorem c_max2 (hc : X.calm = true) : CallF X U (.builtin "max") (f2 bMax2) := by
  refine ⟨_, call_max2 hc, fun Y S H ds xs Q g r h => ?_⟩
  unfold f2 at h
  split at h
  · cases r with
    | cons ra rn =>
      cases rn with
      | cons rb rn =>
        cases rn
        unfold bMax2 at h
        split at h
        · cases ra; cases rb
          exact ⟨_, _, rfl, h.val g (.int _)⟩
        · exact h.elim
  · exact h.elim
theorem c_min2 (hc : X.calm = true) : CallF X U (.builtin "min") (f2 bMin2) := by
  refine ⟨_, call_min2 hc, fun Y S H ds xs Q g r h => ?_⟩
  unfold f2 at h
  split at h
  · cases r with
    | cons ra rn =>
      cases rn with
      | cons rb rn =>
        cases rn
        unfold bMin2 at h
        split at h
        · cases ra; cases rb
          exact ⟨_, _, rfl, h.val g (.int _)⟩
        · exact h.elim
  · exact h.elim
theorem c_tuple : CallF X U (.type "tuple") (f1 bTuple) := by
  refine ⟨_, call_tuple_of, fun Y S H ds xs Q g r h => ?_⟩
  unfold f1 at h
  split at h
  · cases r with
    | cons ra rn =>
      cases rn
      unfold bTuple at h
      split at h
      · rename_i ds e
        obtain ⟨p, xs, rfl, k1, k2⟩ := lst_read g ra e
        exact ⟨p, xs, rfl, .inl ⟨k1, fun l hl => h.fresh g hl (Rep.newT hl k2)⟩⟩
      · rename_i ds e
        obtain ⟨p, xs, rfl, k1, k2⟩ := tup_read ra e
        exact ⟨p, xs, rfl, .inr ⟨k1, h.val g (.tup k1 k2)⟩⟩
      · exact h.elim
  · exact h.elim
theorem c_list : CallF X U (.type "list") (f1 bList) := by
  refine ⟨_, call_list_of, fun Y S H ds xs Q g r h => ?_⟩
  unfold f1 at h
  split at h
  · cases r with
    | cons ra rn =>
      cases rn
      unfold bList at h
      split at h
      · rename_i ds e
        obtain ⟨p, xs, rfl, k1, k2⟩ := lst_read g ra e
        exact ⟨p, xs, rfl, .inl k1, fun l hl => h.fresh g hl (Rep.newL g hl k2)⟩
      · rename_i ds e
        obtain ⟨p, xs, rfl, k1, k2⟩ := tup_read ra e
        exact ⟨p, xs, rfl, .inr k1, fun l hl => h.fresh g hl (Rep.newL g hl k2)⟩
      · exact h.elim
  · exact h.elim

/-! ### methods of texts -/
theorem joinCs_tl (s : Cs) : ∀ xs : List Cs, TL.joinL s xs = joinCs s xs
  | [] => rfl
  | [_] => rfl
  | x :: y :: r => by
    unfold TL.joinL joinCs
    rw [joinCs_tl s (y :: r)]
theorem join_sv (s : Cs) (xs : List Cs) : Txt.join (sv s) (xs.map sv) = sv (joinCs s xs) := by
  rw [TL.join_eq]
  refine TL.ext_tl ?_
  rw [TL.tl_join, List.map_map]
  have : (TL.tl ∘ sv) = id := by funext z; rfl
  rw [this, List.map_id]
  exact joinCs_tl s xs
/-- t.m(e), t a text: the method's rule -/
def MtF (X : Cx) (U : Wh) (id : String) (g : D → D → M D) : Prop :=
  ∃ r, MtR X id r ∧ ∀ Y S H s b y Q, Good X.K Y S H → Rep X.K Y H b y → Pst X.K U Y H (PD X.K Q) (g (.str s) b S) → r (.str (sv s)) [y] H Q
theorem pf_strM {id : String} {name : PySem.Str} {apos : Pos} {g : D → D → M D} (slot : Slot "str" name id) (ty : typeOf (.builtin id) = pure (.type "method_descriptor")) (hm : MtF X U id g) (ha : PeF X U a Fa) (hb : PeF X U b Fb)
    (hs : starEach [b] X.env = [(false, eval b X.env)] := by rfl) (hbase : attributeBase a name X.env (eval a X.env) = eval a X.env := by rfl) (hline : (apos.endLine == pos.line) = true := by rfl) :
    PeF X U (.Call (.Attribute a name apos) [b] [] pos) (dStrM g Fa Fb) := by
  obtain ⟨ta, p1, q1⟩ := ha
  obtain ⟨tb, p2, q2⟩ := hb
  obtain ⟨r, hr, hq⟩ := hm
  refine ⟨_, pe_m1 slot ty hr p1 p2 hs hbase hline, fun Y S H σ ρ Q g0 rs h => q1 Y S H σ ρ _ g0 rs ((Pst.bind h).imp fun d1 S1 Y1 H1 e1 g1 h1 x rx => ?_)⟩
  cases rx with
  | str s => exact ⟨⟨_, rfl⟩, q2 Y1 S1 H1 σ ρ _ g1 (rs.mono e1) ((Pst.bind h1).imp fun d2 S2 Y2 H2 e2 g2 h2 y ry => hq Y2 S2 H2 s d2 y Q g2 ry h2)⟩
  | _ => exact h1.elim
theorem m_join : MtF X U "str.join" bJoin := by
  refine ⟨_, mt_join, fun Y S H s b y Q g ry h => ?_⟩
  unfold bJoin at h
  split at h
  · rename_i s' zs es ez
    cases es
    obtain ⟨ds, k1, k2⟩ := Option.bind_eq_some_iff.mp ez
    obtain ⟨p, xs, rfl, m1, m2⟩ := lstOf_read g ry k1
    have m3 := strsOf_rep m2 k2
    subst m3
    obtain ⟨hc, h⟩ := ite_ok h
    refine ⟨_, p, zs.map sv, rfl, rfl, .inl m1, ?_, ?_⟩
    · have : (zs.map sv).map (fun (z : PySem.Str) => z.length) = zs.map List.length := by
        rw [List.map_map]
        exact List.map_congr_left fun z _ => sv_len z
      rw [this, List.length_map, sv_len, Nat.mul_comm]
      exact hc.2
    · rw [join_sv]
      exact h.val g (.str _)
  · exact h.elim
theorem cnt_eq (c : Nat) : ∀ t : List Nat, PyProof.Rows.cnt c t = (t.count c : Nat)
  | [] => rfl
  | n :: r => by
    rw [PyProof.Rows.cnt_cons, cnt_eq c r, List.count_cons]
    by_cases h : n = c
    · subst h; simp; omega
    · have h' : ¬ (n == c) = true := by simpa using h
      rw [if_neg h, if_neg h']
      simp
theorem m_count : MtF X U "str.count" bCount := by
  refine ⟨_, mt_count, fun Y S H s b y Q g ry h => ?_⟩
  unfold bCount at h
  split at h
  · rename_i t c e
    cases e
    cases ry
    refine ⟨_, _, rfl, rfl, ?_⟩
    have : Txt.count (sv s) (sv [c]) = (s.count c : Nat) := by
      have e := PyProof.Rows.count_cnt (sv s) c
      rw [cnt_eq] at e
      exact e
    rw [this]
    exact h.val g (.int _)
  · exact h.elim
end
end WF

set_option Elab.async false
set_option linter.all false
set_option maxRecDepth 100000
set_option maxHeartbeats 4000000
/-! # Rules4: targets, what is walked, comprehensions, statements -/
namespace WF
open PySem L2 PyProof.Rows
section
variable {X : Cx} {U : Wh} {a b e : Expr} {Fa Fb : FE} {pos : Pos}

/-! ### targets -/
theorem pg_nm (i : Nat) {x : PySem.Str} (hN : X.N.Nodup) (hi : X.N[i]? = some x := by rfl) (hx : Loc X.env.scope x := by first | exact Or.inl rfl | exact Or.inr rfl)
    (hf : X.fn x = true ∨ X.env.scope.names.lookup x = some .local := by first | exact .inl rfl | exact .inr rfl | assumption) : PgF X U (.Name x pos) [i] (gName i) := by
  refine ⟨_, pg_name hN hi hx hf, fun Y S H σ ρ d v Q g rs r h => ?_⟩
  exact h.now g _ (rs.set r i) (fun j hj => List.getElem?_set_ne (fun z => hj (by simp [z]))) (by simp)
def DGs (K : PySem.W.Frag) (U : Wh) (ws : List Nat) (tg : TGs) (F : List FG) : Prop :=
  ∀ Y S H σ ρ ds vs Q, Good K Y S H → RepS K Y H ρ σ → RepL K Y H ds vs →
    Pst K U Y H (fun ρ' _ Y' H' => ∀ σ', RepS K Y' H' ρ' σ' → (∀ i, i ∉ ws → σ'[i]? = σ[i]?) → σ'.length = σ.length → Q σ' H') (gAll F ds ρ S) → tg vs σ H Q
structure PgsF (X : Cx) (U : Wh) (ts : List Expr) (ws : List Nat) (F : List FG) : Prop where
  ex : ∃ tg, PGs X ts tg ∧ DGs X.K U ws tg F
theorem pgsf_nil : PgsF X U [] [] [] := by
  refine ⟨_, pgs_nil, fun Y S H σ ρ ds vs Q g rs r h => ?_⟩
  cases r with
  | nil => exact ⟨rfl, h.now g _ rs (fun _ _ => rfl) rfl⟩
  | cons _ _ => exact h.elim
theorem pgsf_cons {t : Expr} {ts : List Expr} {ws ws' : List Nat} {G : FG} {Gs : List FG} (h1 : PgF X U t ws G) (h2 : PgsF X U ts ws' Gs)
    (hs : (assignEach (t :: ts) X.env).map (·.2) = assign t X.env :: (assignEach ts X.env).map (·.2) := by rfl) : PgsF X U (t :: ts) (ws ++ ws') (G :: Gs) := by
  obtain ⟨tg, p1, q1⟩ := h1
  obtain ⟨tgs, p2, q2⟩ := h2
  refine ⟨_, pgs_cons p1 p2 hs, fun Y S H σ ρ ds vs Q g rs r h => ?_⟩
  cases r with
  | nil => exact h.elim
  | cons r1 rr =>
    refine ⟨_, _, rfl, q1 Y S H σ ρ _ _ _ g rs r1 ((Pst.bind h).imp fun ρ1 S1 Y1 H1 e1 g1 h1 σ1 rs1 k1 l1 => q2 Y1 S1 H1 σ1 ρ1 _ _ _ g1 rs1 (rr.mono e1) (h1.imp fun ρ2 S2 Y2 H2 e2 g2 h2 σ2 rs2 k2 l2 => ?_))⟩
    exact h2 σ2 rs2 (fun i hi => (k2 i fun z => hi (List.mem_append_right _ z)).trans (k1 i fun z => hi (List.mem_append_left _ z))) (l2.trans l1)
theorem pg_tp {ts : List Expr} {k n : Nat} {ws : List Nat} {Gs : List FG} (hc : X.calm = true) (h : PgsF X U ts ws Gs) (hl : Gs.length = n := by rfl)
    (hn : (assignEach ts X.env).length = n := by rfl) (hst : (assignEach ts X.env).findIdx? (·.1) = none := by rfl) : PgF X U (.Tuple ts k pos) ws (gTup Gs) := by
  obtain ⟨tg, p, q⟩ := h
  refine ⟨_, L2.pg_tup hc p hn hst, fun Y S H σ ρ d v Q g rs r h => ?_⟩
  cases r with
  | tup hs hr =>
    rename_i ds a xs
    obtain ⟨hz, h⟩ := ite_ok h
    exact ⟨a, xs, rfl, hs, by rw [← hr.len, hz]; exact hl, q Y S H σ ρ ds xs Q g rs hr h⟩
  | _ => exact h.elim

/-! ### what is walked -/
/-- the items as they stand in the store -/
def items (S : Store) (ds : List D) : Option Nat → Option (List D)
  | none => some ds
  | some n => match S[n]? with
    | some (.lst es) => if es.length = ds.length then some es else none
    | _ => none
theorem items_len {S : Store} {ds es : List D} {w : Option Nat} (h : items S ds w = some es) : es.length = ds.length := by
  cases w with
  | none => cases h; rfl
  | some n =>
    unfold items at h
    simp only at h
    split at h
    · split at h
      · cases h; assumption
      · cases h
    · cases h
structure Walk (K : PySem.W.Frag) (J : It) (ds : List D) (w : Option Nat) (Y : Lay) (H : Hp) : Prop where
  stop : ∀ Y2 S2 H2 es, Ext Y H Y2 H2 → Good K Y2 S2 H2 → items S2 ds w = some es → J.stop es.length H2
  go : ∀ i Y2 S2 H2 es, Ext Y H Y2 H2 → Good K Y2 S2 H2 → items S2 ds w = some es → i < es.length → J.go i H2
  yld : ∀ i Y2 S2 H2 es x H3, Ext Y H Y2 H2 → Good K Y2 S2 H2 → items S2 ds w = some es → i < es.length → J.yld i H2 x H3 → ∃ d, es[i]? = some d ∧ Ext Y2 H2 Y2 H3 ∧ Good K Y2 S2 H3 ∧ (∀ a o, H2 a = some o → H3 a = some o) ∧ Rep K Y2 H3 d x
def DI (K : PySem.W.Frag) (U : Wh) (wi : TI) (F : FI) : Prop :=
  ∀ Y S H σ ρ R, Good K Y S H → RepS K Y H ρ σ → Pst K U Y H (fun p _ Y' H' => ∀ J, Walk K J p.1 p.2 Y' H' → R J H') (F ρ S) → wi σ H R
structure PiF (X : Cx) (U : Wh) (tg iter : Expr) (F : FI) : Prop where
  ex : ∃ wi, PI X tg iter wi ∧ DI X.K U wi F
theorem PI.or {tg : Expr} {w1 w2 : TI} (h1 : PI X tg e w1) (h2 : PI X tg e w2) : PI X tg e (fun σ H R => w1 σ H R ∨ w2 σ H R) :=
  ⟨fun pins s σ H R I h => h.elim (h1.run pins s σ H R I) (h2.run pins s σ H R I)⟩
theorem walk_lst {K : PySem.W.Frag} {Y : Lay} {H : Hp} {p : Addr} {xs : List V} {ds : List D} (hr : Rep K Y H (.lst ds) (.ref p)) : Walk K (Itl K p) ds none Y H := by
  have ex : ∀ {Y2 : Lay} {H2 : Hp}, Ext Y H Y2 H2 → ∃ xs, SqL K H2 p xs ∧ RepL K Y2 H2 ds xs := fun {Y2 H2} e2 => by
    cases hr.mono e2 with
    | lst h _ r => exact ⟨_, .inl h, r⟩
    | lsk h r => exact ⟨_, .inr h, r⟩
  refine ⟨fun Y2 S2 H2 es e2 g2 h => ?_, fun i Y2 S2 H2 es e2 g2 h hi => ?_, fun i Y2 S2 H2 es x H3 e2 g2 h hi hy => ?_⟩
  · cases h
    obtain ⟨xs, h1, h2⟩ := ex e2
    exact ⟨xs, h1, by rw [h2.len]; exact Nat.le_refl _⟩
  · cases h
    obtain ⟨xs, h1, h2⟩ := ex e2
    rw [h2.len] at hi
    exact ⟨xs, xs[i], h1, by simp [hi]⟩
  · cases h
    obtain ⟨xs, h1, h2⟩ := ex e2
    obtain ⟨rfl, hx⟩ := hy
    obtain ⟨d, h3, h4⟩ := h2.get' (hx xs h1)
    exact ⟨d, h3, Ext.refl, g2, fun _ _ z => z, h4⟩
theorem walk_tup {K : PySem.W.Frag} {Y : Lay} {H : Hp} {p : Addr} {xs : List V} {ds : List D} (hs : SqT K H p xs) (hr : RepL K Y H ds xs) : Walk K (Itt K p) ds none Y H := by
  refine ⟨fun Y2 S2 H2 es e2 g2 h => ?_, fun i Y2 S2 H2 es e2 g2 h hi => ?_, fun i Y2 S2 H2 es x H3 e2 g2 h hi hy => ?_⟩
  · cases h
    exact ⟨xs, e2.sqt hs, by rw [hr.len]; exact Nat.le_refl _⟩
  · cases h
    rw [hr.len] at hi
    exact ⟨xs, xs[i], e2.sqt hs, by simp [hi]⟩
  · cases h
    obtain ⟨rfl, hx⟩ := hy
    obtain ⟨d, h1, h2⟩ := hr.get' (hx xs (e2.sqt hs))
    exact ⟨d, h1, Ext.refl, g2, fun _ _ z => z, h2.mono e2⟩
theorem walk_str {K : PySem.W.Frag} {Y : Lay} {H : Hp} {s : Cs} : Walk K (Its (sv s)) (signs s) none Y H := by
  have hl : (signs s).length = (sv s).cps.size := by simp [signs]
  refine ⟨fun Y2 S2 H2 es e2 g2 h => ?_, fun i Y2 S2 H2 es e2 g2 h hi => ?_, fun i Y2 S2 H2 es x H3 e2 g2 h hi hy => ?_⟩
  · cases h
    show (sv s).cps.size ≤ _
    omega
  · cases h
    show i < (sv s).cps.size
    omega
  · cases h
    obtain ⟨rfl, c, hc, rfl⟩ := hy
    refine ⟨.str [c], ?_, Ext.refl, g2, fun _ _ z => z, .str [c]⟩
    have hc' : s[i]? = some c := by simpa using hc
    unfold signs
    rw [List.getElem?_map, hc']
    rfl
theorem ext_loc {Y Y2 : Lay} {H H2 : Hp} {n : Nat} {p : Addr} (e : Ext Y H Y2 H2) (h : Y.loc[n]? = some p) : Y2.loc[n]? = some p := by
  obtain ⟨m, em⟩ := e.pre
  rw [em, List.getElem?_append_left (List.getElem?_eq_some_iff.mp h).1]
  exact h
theorem walk_loc {K : PySem.W.Frag} {Y : Lay} {H : Hp} {n : Nat} {p : Addr} {ds : List D} (hl : Y.loc[n]? = some p) : Walk K (Itl K p) ds (some n) Y H := by
  have rd : ∀ {Y2 : Lay} {S2 : Store} {H2 : Hp} {es : List D}, Ext Y H Y2 H2 → Good K Y2 S2 H2 → items S2 ds (some n) = some es → ∃ xs, H2 p = some (.lst xs) ∧ RepL K Y2 H2 es xs := fun {Y2 S2 H2 es} e2 g2 h => by
    unfold items at h
    simp only at h
    split at h
    · rename_i fs e
      split at h
      · cases h
        exact g2.at' n _ p e (ext_loc e2 hl)
      · cases h
    · cases h
  refine ⟨fun Y2 S2 H2 es e2 g2 h => ?_, fun i Y2 S2 H2 es e2 g2 h hi => ?_, fun i Y2 S2 H2 es x H3 e2 g2 h hi hy => ?_⟩
  · obtain ⟨xs, h1, h2⟩ := rd e2 g2 h
    exact ⟨xs, .inl (.inl h1), by rw [h2.len]; exact Nat.le_refl _⟩
  · obtain ⟨xs, h1, h2⟩ := rd e2 g2 h
    rw [h2.len] at hi
    exact ⟨xs, xs[i], .inl (.inl h1), by simp [hi]⟩
  · obtain ⟨xs, h1, h2⟩ := rd e2 g2 h
    obtain ⟨rfl, hx⟩ := hy
    obtain ⟨d, h3, h4⟩ := h2.get' (hx xs (.inl (.inl h1)))
    exact ⟨d, h3, Ext.refl, g2, fun _ _ z => z, h4⟩
theorem pi_val {tg : Expr} (ha : PeF X U e Fa) : PiF X U tg e (iVal Fa) := by
  obtain ⟨te, p, q⟩ := ha
  refine ⟨_, PI.or (pi_list p) (PI.or (pi_tup p) (pi_str p)), fun Y S H σ ρ R g rs h => ?_⟩
  unfold iVal at h
  -- which of the three is told by the value
  cases er : Fa ρ S with
  | un => rw [er] at h; exact h.elim
  | ex c T => rw [er] at h; exact .inl (q Y S H σ ρ _ g rs (by rw [er]; exact h))
  | ok d T =>
    rw [er] at h
    simp only [Res.ok_bind] at h
    have go : ∀ {Φ : V → Hp → Prop}, (∀ Y1 H1, Ext Y H Y1 H1 → Good X.K Y1 T H1 → ∀ x, Rep X.K Y1 H1 d x → Φ x H1) → te σ H Φ := fun {Φ} k => q Y S H σ ρ _ g rs (by rw [er]; exact fun Y1 H1 e1 g1 x rx => k Y1 H1 e1 g1 x rx)
    cases d with
    | lst ds =>
      refine .inl (go fun Y1 H1 e1 g1 x rx => ?_)
      obtain ⟨p, xs, rfl, k1, k2⟩ := lst_read (S := T) g1 rx rfl
      exact ⟨_, rfl, ⟨_, k1⟩, h Y1 H1 e1 g1 _ (walk_lst (xs := xs) rx)⟩
    | tup ds =>
      refine .inr (.inl (go fun Y1 H1 e1 g1 x rx => ?_))
      cases rx with
      | tup hs hr => exact ⟨_, rfl, ⟨_, hs⟩, h Y1 H1 e1 g1 _ (walk_tup hs hr)⟩
    | str s =>
      obtain ⟨hz, h⟩ := ite_ok h
      refine .inr (.inr (go fun Y1 H1 e1 g1 x rx => ?_))
      cases rx with
      | str => exact ⟨_, rfl, h Y1 H1 e1 g1 _ walk_str⟩
    | loc n =>
      refine .inl (go fun Y1 H1 e1 g1 x rx => ?_)
      cases rx with
      | loc hl =>
        simp only at h
        split at h
        · rename_i ds ed
          obtain ⟨xs, h1, h2⟩ := g1.at' n _ _ ed hl
          exact ⟨_, rfl, ⟨xs, .inl (.inl h1)⟩, h Y1 H1 e1 g1 _ (walk_loc hl)⟩
        · exact h.elim
    | _ => exact h.elim
theorem rngD_len (lo : Int) (n : Nat) : (rngD lo n).length = n := by simp [rngD]
theorem walk_rng {K : PySem.W.Frag} {Y : Lay} {H : Hp} {lo : Int} {n : Nat} : Walk K (Itr lo n) (rngD lo n) none Y H := by
  refine ⟨fun Y2 S2 H2 es e2 g2 h => ?_, fun i Y2 S2 H2 es e2 g2 h hi => ?_, fun i Y2 S2 H2 es x H3 e2 g2 h hi hy => ?_⟩
  · cases h
    show n ≤ _
    rw [rngD_len]
    exact Nat.le_refl _
  · cases h
    rw [rngD_len] at hi
    exact hi
  · cases h
    obtain ⟨rfl, rfl⟩ := hy
    rw [rngD_len] at hi
    refine ⟨.int (lo + i), ?_, Ext.refl, g2, fun _ _ z => z, .int _⟩
    unfold rngD
    rw [List.getElem?_map, List.getElem?_range hi]
    rfl
theorem pi_rng1 {tg : Expr} {p : Pos} (ha : PeF X U a Fa) (hm : X.mg "range" = none) (hg : Gl X "range" := by rfl) (hs : starEach [a] X.env = [(false, eval a X.env)] := by rfl)
    (hp : starEach (a :: []) X.env = (false, eval a X.env) :: starEach [] X.env := by rfl) : PiF X U tg (.Call (.Name "range" p) [a] [] pos) (iRange1 Fa) := by
  obtain ⟨ta, p1, q1⟩ := ha
  refine ⟨_, pi_range1 hg hm (pa_cons p1 pa_nil hp) hs, fun Y S H σ ρ R g rs h => q1 Y S H σ ρ _ g rs ((Pst.bind h).imp fun d S1 Y1 H1 e1 g1 h1 x rx => ?_)⟩
  cases rx with
  | int n =>
    obtain ⟨hz, h1⟩ := ite_ok h1
    exact ⟨n, rfl, by omega, by omega, h1.now g1 _ walk_rng⟩
  | _ => exact h1.elim
theorem pi_rng2 {tg : Expr} {p : Pos} (ha : PeF X U a Fa) (hb : PeF X U b Fb) (hm : X.mg "range" = none) (hg : Gl X "range" := by rfl) (hs : starEach [a, b] X.env = [(false, eval a X.env), (false, eval b X.env)] := by rfl) (hs2 : starEach [b] X.env = [(false, eval b X.env)] := by rfl)
    (hp : starEach (a :: [b]) X.env = (false, eval a X.env) :: starEach [b] X.env := by rfl) (hp2 : starEach (b :: []) X.env = (false, eval b X.env) :: starEach [] X.env := by rfl) :
    PiF X U tg (.Call (.Name "range" p) [a, b] [] pos) (iRange2 Fa Fb) := by
  obtain ⟨ta, p1, q1⟩ := ha
  obtain ⟨tb, p2, q2⟩ := hb
  refine ⟨_, pi_range2 hg hm (pa_cons p1 (pa_cons p2 pa_nil hp2) hp) hs hs2, fun Y S H σ ρ R g rs h => q1 Y S H σ ρ _ g rs ((Pst.bind h).imp fun d S1 Y1 H1 e1 g1 h1 x rx =>
    q2 Y1 S1 H1 σ ρ _ g1 (rs.mono e1) ((Pst.bind h1).imp fun d2 S2 Y2 H2 e2 g2 h2 y ry => ?_))⟩
  cases rx with
  | int m =>
    cases ry with
    | int n =>
      obtain ⟨hz, h2⟩ := ite_ok h2
      exact ⟨m, n, rfl, by omega, h2.now g2 _ walk_rng⟩
    | _ => exact h2.elim
  | _ => exact h2.elim

/-! ### comprehensions -/
structure PtsF (X : Cx) (U : Wh) (ifs : List Expr) (F : FT) : Prop where
  ex : ∃ tt, PTs X ifs tt ∧ DT X.K U tt F
theorem pts_no : PtsF X U [] tYes := ⟨_, pts_nil, fun Y S H σ ρ Q g rs h => h.now g⟩
theorem pts_if {c : Expr} {F : FT} (h : PtF X U c F) : PtsF X U [c] F := by
  obtain ⟨t, p, q⟩ := h
  exact ⟨_, pts_one p, q⟩
end
end WF

set_option Elab.async false
set_option linter.all false
set_option maxRecDepth 100000
set_option maxHeartbeats 4000000
/-! # Rules5: comprehensions -/
namespace WF
open PySem L2 PyProof.Rows

/-- an address is hidden: it may change -/
def Lay.hide (Y : Lay) (p : Addr) : Lay := ⟨Y.loc, fun a => Y.vol a ∨ a = p, fun a h => .inl (Y.sub a h)⟩
/-- it is shown again -/
def Lay.show (Y : Lay) (p : Addr) (h : p ∉ Y.loc) : Lay := ⟨Y.loc, fun a => Y.vol a ∧ a ≠ p, fun a q => ⟨Y.sub a q, fun z => h (z ▸ q)⟩⟩
section
variable {K : PySem.W.Frag} {Y Y1 Y' : Lay} {S : Store} {H H1 H' : Hp} {p : Addr} {o : HO}
theorem extV_show (h : p ∉ Y.loc) : ExtV Y H (Y.show p h) H := ⟨⟨[], by simp [Lay.show]⟩, fun _ _ q _ => q, fun _ _ q => q, fun a q => .inl q.1⟩
theorem good_show (g : Good K Y S H) (h : p ∉ Y.loc) : Good K (Y.show p h) S H :=
  ⟨g.len, g.nd, fun n mo a h1 h2 => (g.at' n mo a h1 h2).monoV (extV_show h) rfl, fun a q => g.there a q.1⟩
theorem ext_show (g1 : ∀ a, Y1.vol a → H1 a ≠ none) (e : Ext Y1 H1 Y' H') (hp : H1 p = none) (h : p ∉ Y'.loc) : Ext Y1 H1 (Y'.show p h) H' :=
  ⟨e.pre, fun a q => ⟨e.vol a q, fun z => g1 a q (z ▸ hp)⟩, e.keep, e.tups, fun a q => e.fresh a q.1, e.newl, e.dom⟩
theorem ext_hide (hp : H p = none) : Ext Y H (Y.hide p) (upd H p o) :=
  have e : Ext Y H Y (upd H p o) := Ext.new hp
  ⟨⟨[], by simp [Lay.hide]⟩, fun a q => .inl q, e.keep, e.tups, fun a q => by
    rcases q with q | q
    · exact .inl q
    · exact .inr (by rw [q]; exact hp), fun a q => .inl q, e.dom⟩
theorem extV_hide (hp : H p = none) : ExtV Y H (Y.hide p) (upd H p o) := (ext_hide hp).v
theorem good_hide (g : Good K Y S H) (hp : H p = none) : Good K (Y.hide p) S (upd H p o) :=
  ⟨g.len, g.nd, fun n mo a h1 h2 => (g.at' n mo a h1 h2).monoV (extV_hide hp) (upd_ne fun z => g.there a (Y.sub a (List.mem_of_getElem? h2)) (z ▸ hp)), fun a q => by
    by_cases z : a = p
    · rw [z, upd_same]; exact fun w => nomatch w
    · rw [upd_ne z]
      rcases q with q | q
      · exact g.there a q
      · exact absurd q z⟩
/-- the hidden object is changed -/
theorem extV_upd (hv : Y.vol p) (nt : ∀ xs, ¬ Rd H p (.tup xs)) : ExtV Y H Y (upd H p o) :=
  ⟨⟨[], by simp⟩, fun a u q n => by rw [upd_ne fun (z : a = p) => n (z ▸ hv)]; exact q, fun a xs q => by
    have : a ≠ p := fun z => nt xs (z ▸ q)
    unfold Rd
    rw [upd_ne this]
    exact q, fun _ q => .inl q⟩
theorem good_upd (g : Good K Y S H) (hv : Y.vol p) (hl : p ∉ Y.loc) (nt : ∀ xs, ¬ Rd H p (.tup xs)) : Good K Y S (upd H p o) :=
  ⟨g.len, g.nd, fun n mo a h1 h2 => (g.at' n mo a h1 h2).monoV (extV_upd hv nt) (upd_ne fun z => hl (z ▸ List.mem_of_getElem? h2)), fun a q => by
    by_cases z : a = p
    · rw [z, upd_same]; exact fun w => nomatch w
    · rw [upd_ne z]; exact g.there a q⟩
theorem ext_upd (e : Ext Y1 H1 Y' H') (hp : H1 p = none) : Ext Y1 H1 Y' (upd H' p o) :=
  ⟨e.pre, e.vol, fun a u q n => by rw [upd_ne (ne_of_none q hp)]; exact e.keep a u q n, fun a xs q => by
    obtain ⟨u, hu⟩ := Rd.some q
    unfold Rd
    rw [upd_ne (ne_of_none hu hp)]
    exact e.tups a xs q, e.fresh, e.newl, fun a q => by
    by_cases z : a = p
    · rw [z, upd_same] at q; cases q
    · rw [upd_ne z] at q; exact e.dom a q⟩
end

theorem wipe_in {σ : L2.St} : ∀ {vs : List Nat} {i : Nat}, i ∈ vs → (L2.wipe σ vs)[i]? = if i < σ.length then some none else none
  | v :: vs, i, h => by
    unfold L2.wipe
    by_cases e : v = i
    · subst e
      by_cases hl : v < σ.length
      · rw [List.getElem?_set_self (by rw [L2.wipe_length]; exact hl), if_pos hl]
      · rw [List.getElem?_eq_none (by rw [List.length_set, L2.wipe_length]; omega), if_neg hl]
    · rw [List.getElem?_set_ne e]
      exact wipe_in ((List.mem_cons.mp h).resolve_left (Ne.symm e))
theorem wipe_same {σ σ2 : L2.St} {vs ws : List Nat} (hw : ∀ i ∈ ws, i ∈ vs) (h : ∀ i, i ∉ ws → σ2[i]? = (L2.wipe σ vs)[i]?) (hl : σ2.length = (L2.wipe σ vs).length) : L2.wipe σ2 vs = L2.wipe σ vs := by
  refine List.ext_getElem? fun i => ?_
  rw [L2.wipe_length] at hl
  by_cases hi : i ∈ vs
  · rw [wipe_in hi, wipe_in hi, hl]
  · rw [L2.wipe_out hi, h i fun z => hi (hw i z)]

/-! ### the turns of a comprehension, whatever is walked -/
def compC (g : FG) (vs : List Nat) (t : FT) (e : FE) (ρ : Env) (ds : List D) (w : Option Nat) (i : Nat) : M (List D) := match w with
  | none => compL g vs t e ρ (ds.drop i)
  | some n => compN g vs t e ρ n ds.length (ds.length - i)
def stepC (g : FG) (vs : List Nat) (t : FT) (e : FE) (ρ : Env) (d : D) (k : M (List D)) : M (List D) := fun S =>
  (g d (wipe ρ vs) S).noex.bind fun ρ1 S1 => (t ρ1 S1).noex.bind fun c S2 =>
    if c = true then (e ρ1 S2).noex.bind fun y S3 => (k S3).bind fun ys S4 => .ok (y :: ys) S4 else k S2
theorem compC_end {g : FG} {vs : List Nat} {t : FT} {e : FE} {ρ : Env} {ds : List D} {w : Option Nat} {S : Store} : compC g vs t e ρ ds w ds.length S = .un ∨ (∃ es, items S ds w = some es) ∧ compC g vs t e ρ ds w ds.length S = .ok [] S := by
  cases w with
  | none =>
    right
    refine ⟨⟨ds, rfl⟩, ?_⟩
    show compL g vs t e ρ (ds.drop ds.length) S = _
    rw [List.drop_length]
    rfl
  | some n =>
    show compN g vs t e ρ n ds.length (ds.length - ds.length) S = .un ∨ _
    rw [Nat.sub_self]
    unfold compN
    split
    · rename_i es he
      by_cases h : es.length = ds.length
      · right
        refine ⟨⟨es, by unfold items; simp only [he, if_pos h]⟩, ?_⟩
        show compN g vs t e ρ n ds.length (ds.length - ds.length) S = _
        rw [Nat.sub_self]
        unfold compN
        simp only [he, if_pos h]
      · left
        rw [if_neg h]
    · exact .inl rfl
theorem compC_step {g : FG} {vs : List Nat} {t : FT} {e : FE} {ρ : Env} {ds : List D} {w : Option Nat} {S : Store} {i : Nat} (hi : i < ds.length) :
    compC g vs t e ρ ds w i S = .un ∨ ∃ es d, items S ds w = some es ∧ es[i]? = some d ∧ compC g vs t e ρ ds w i S = stepC g vs t e ρ d (compC g vs t e ρ ds w (i + 1)) S := by
  cases w with
  | none =>
    right
    refine ⟨ds, ds[i], rfl, by simp [hi], ?_⟩
    show compL g vs t e ρ (ds.drop i) S = stepC g vs t e ρ ds[i] (compL g vs t e ρ (ds.drop (i + 1))) S
    rw [List.drop_eq_getElem_cons hi]
    rfl
  | some n =>
    have e1 : ds.length - i = (ds.length - (i + 1)) + 1 := by omega
    have e2 : ds.length - (ds.length - (i + 1) + 1) = i := by omega
    have eq : compC g vs t e ρ ds (some n) i S = compN g vs t e ρ n ds.length ((ds.length - (i + 1)) + 1) S := by
      show compN g vs t e ρ n ds.length (ds.length - i) S = _
      rw [e1]
    rw [eq]
    unfold compN
    rw [e2]
    split
    · rename_i es he
      by_cases h : es.length = ds.length
      · rw [if_pos h]
        split
        · rename_i d hd
          exact .inr ⟨es, d, by unfold items; simp only [he, if_pos h], hd, rfl⟩
        · exact .inl rfl
      · left
        rw [if_neg h]
    · exact .inl rfl

section
variable {K : PySem.W.Frag} {U U0 : Wh} {G : FG} {T : FT} {Fe : FE} {it : FI} {wi : TI} {vs ws : List Nat}
theorem noex_ok {α : Type} {r : Res α} (h : r.noex ≠ .un) : ∃ a S, r = .ok a S := by
  cases r with
  | ok a S => exact ⟨a, S, rfl⟩
  | ex c S => exact absurd rfl h
  | un => exact absurd rfl h
theorem DE.comp (hi : DI K U wi it) (hw : ∀ i ∈ ws, i ∈ vs) : DE K U (tLc wi (canonG K U0 ws G) (canonT K U0 T) (canonE K U0 Fe) vs) (dComp it G vs T Fe) := by
  intro Y S H σ ρ Q g0 rs h
  unfold dComp at h
  refine hi Y S H σ ρ _ g0 rs ((Pst.bind h).imp fun p S1 Y1 H1 e1 g1 h1 J wk D hD => ?_)
  obtain ⟨ds, w⟩ := p
  obtain ⟨hl, h1⟩ := ite_ok h1
  have rs1 := rs.mono e1
  -- the whole as the turns from the first on
  have h2 : Pst K U Y1 H1 (PD K Q) ((compC G vs T Fe ρ ds w 0 S1).bind fun ys S2 => .ok (.lst ([] ++ ys)) S2) := by
    cases w with
    | none => exact h1
    | some n => exact h1
  have vol1 : ∀ a, Y1.vol a → H1 a ≠ none := g1.there
  refine ⟨fun i m H' => ∃ Y' S' acc done, m = ds.length - i ∧ i ≤ ds.length ∧ Ext Y1 H1 Y' H' ∧ Good K Y' S' H' ∧ Y'.vol D ∧ D ∉ Y'.loc ∧ H' D = some (.lst acc) ∧ RepL K Y' H' done acc ∧ done.length ≤ i ∧
    Pst K U Y1 H1 (PD K Q) ((compC G vs T Fe ρ ds w i S').bind fun ys S2 => .ok (.lst (done ++ ys)) S2), ?_, ?_⟩
  · exact ⟨_, Y1.hide D, S1, [], [], rfl, Nat.zero_le _, ext_hide hD, good_hide g1 hD, .inr rfl, fun z => vol1 D (Y1.sub D z) hD, upd_same, .nil, Nat.le_refl _, h2⟩
  · rintro i m H' ⟨Y', S', acc, done, rfl, hi', eX, gX, vX, lX, hacc, racc, hdone, hP⟩
    by_cases hlt : i < ds.length
    · rcases compC_step (g := G) (vs := vs) (t := T) (e := Fe) (ρ := ρ) (w := w) (S := S') hlt with z | ⟨es, d, hes, hd, z⟩
      · rw [z] at hP; exact hP.elim
      · rw [z] at hP
        have hes' := items_len hes
        refine .inr ⟨wk.go i Y' S' H' es eX gX hes (by omega), fun H'' => ∃ m', m' < ds.length - i ∧ ∃ Y' S' acc done, m' = ds.length - (i + 1) ∧ i + 1 ≤ ds.length ∧ Ext Y1 H1 Y' H'' ∧ Good K Y' S' H'' ∧ Y'.vol D ∧ D ∉ Y'.loc ∧ H'' D = some (.lst acc) ∧ RepL K Y' H'' done acc ∧
          done.length ≤ i + 1 ∧ Pst K U Y1 H1 (PD K Q) ((compC G vs T Fe ρ ds w (i + 1) S').bind fun ys S2 => .ok (.lst (done ++ ys)) S2), fun _ q => q, fun x H2 hy => ?_⟩
        obtain ⟨d', hd', e2, g2, k2, r2⟩ := wk.yld i Y' S' H' es x H2 eX gX hes (by omega) hy
        rw [hd] at hd'
        cases hd'
        have hD2 : H2 D = some (.lst acc) := k2 D _ hacc
        have rsw := ((rs1.mono eX).mono e2).wipe vs
        unfold stepC at hP
        -- the target
        cases eg : G d (WF.wipe ρ vs) S' with
        | un => rw [eg] at hP; exact hP.elim
        | ex c T' => rw [eg] at hP; exact hP.elim
        | ok ρ1 S2 =>
          rw [eg] at hP
          simp only [Res.ok_noex, Res.ok_bind] at hP
          refine ⟨Y', S', WF.wipe ρ vs, d, g2, rsw, r2, ?_⟩
          rw [eg]
          intro Y3 H3 e3 g3 σ3 rs3 k3 l3
          refine ⟨wipe_same hw k3 l3, ?_⟩
          have lX3 : D ∉ Y3.loc := fun z => by
            rcases e3.newl D z with q | q
            · exact lX q
            · rw [hD2] at q; cases q
          have hD3 : H3 D = some (.lst acc) := e3.keep D _ hD2 lX
          -- the test
          cases et : T ρ1 S2 with
          | un => rw [et] at hP; exact hP.elim
          | ex c T' => rw [et] at hP; exact hP.elim
          | ok c S3 =>
            rw [et] at hP
            simp only [Res.ok_noex, Res.ok_bind] at hP
            refine ⟨Y3, S2, ρ1, g3, rs3, ?_⟩
            rw [et]
            intro Y4 H4 e4 g4
            have lX4 : D ∉ Y4.loc := fun z => by
              rcases e4.newl D z with q | q
              · exact lX3 q
              · rw [hD3] at q; cases q
            have hD4 : H4 D = some (.lst acc) := e4.keep D _ hD3 lX3
            have eX4 : Ext Y1 H1 Y4 H4 := ((eX.trans e2).trans e3).trans e4
            cases c with
            | false =>
              rw [if_neg Bool.false_ne_true] at hP
              dsimp only
              rw [if_neg Bool.false_ne_true]
              exact ⟨_, by omega, Y4, S3, acc, done, rfl, hlt, eX4, g4, e4.vol D (e3.vol D vX), lX4, hD4, ((racc.mono e2).mono e3).mono e4, by omega, hP⟩
            | true =>
              rw [if_pos rfl] at hP
              dsimp only
              rw [if_pos rfl]
              -- the element
              cases ee : Fe ρ1 S3 with
              | un => rw [ee] at hP; exact hP.elim
              | ex c T' => rw [ee] at hP; exact hP.elim
              | ok y S4 =>
                rw [ee] at hP
                simp only [Res.ok_noex, Res.ok_bind] at hP
                refine ⟨Y4, S3, ρ1, g4, rs3.mono e4, ?_⟩
                rw [ee]
                intro Y5 H5 e5 g5 v rv
                have lX5 : D ∉ Y5.loc := fun z => by
                  rcases e5.newl D z with q | q
                  · exact lX4 q
                  · rw [hD4] at q; cases q
                have hD5 : H5 D = some (.lst acc) := e5.keep D _ hD4 lX4
                have vX5 : Y5.vol D := e5.vol D (e4.vol D (e3.vol D vX))
                have racc5 := (((racc.mono e2).mono e3).mono e4).mono e5
                have nt : ∀ xs, ¬ Rd H5 D (.tup xs) := fun xs q => by
                  rcases q with q | ⟨o, q⟩
                  · rw [hD5] at q; cases q
                  · rw [hD5] at q; cases q
                have ev : ExtV Y5 H5 Y5 (upd H5 D (.lst (acc ++ [v]))) := extV_upd vX5 nt
                refine ⟨acc, hD5, ?_, _, by omega, Y5, S4, acc ++ [v], done ++ [y], rfl, hlt, ext_upd (eX4.trans e5) hD, good_upd g5 vX5 lX5 nt, vX5, lX5, upd_same, (racc5.append (.cons rv .nil)).monoV ev, by simp; omega, ?_⟩
                · rw [← racc5.len, ← lim_eq]
                  have : ds.length ≤ lim := hl
                  omega
                · rw [Res.bind_assoc] at hP
                  simp only [Res.ok_bind] at hP
                  have this : ∀ (ys : List WF.D), done ++ [y] ++ ys = done ++ y :: ys := fun ys => by simp
                  simp only [this]
                  exact hP
    · have e : i = ds.length := by omega
      subst e
      left
      rcases compC_end (g := G) (vs := vs) (t := T) (e := Fe) (ρ := ρ) (ds := ds) (w := w) (S := S') with z | ⟨⟨es, hes⟩, z⟩
      · rw [z] at hP; exact hP.elim
      · rw [z] at hP
        simp only [Res.ok_bind, List.append_nil] at hP
        have hs := wk.stop Y' S' H' es eX gX hes
        rw [items_len hes] at hs
        refine ⟨hs, ?_⟩
        exact hP (Y'.show D lX) H' (ext_show vol1 eX hD lX) (good_show gX lX) _ (.lst (.inl hacc) (fun q => q.2 rfl) (racc.monoV (extV_show lX)))
end

section
variable {X : Cx} {U : Wh} {elt tg iter : Expr} {ifs : List Expr} {scope : Scope} {own : List (PySem.Str × Nat)} {pos spos : Pos} {G : FG} {T : FT} {Fe : FE} {it : FI} {ws : List Nat}
/-- no exception is wished for -/
def Wh.no (U : Wh) : Wh := ⟨fun _ _ _ => False, U.cl⟩
theorem pf_comp {vs : List Nat} (hc : X.calm = true) (hN : X.N.Nodup) (hi : PiF X U tg iter it) (ok : BlkOk X.N X.env.scope scope own)
    (hg : ∀ (s : Shared) (H : Hp) (C : Addr) (cl : List (PySem.Str × Addr)) (fp : List Addr), PgF (X.blk s H scope (compEnvC scope cl C X.env) fp) U.no tg ws G)
    (ht : ∀ (s : Shared) (H : Hp) (C : Addr) (cl : List (PySem.Str × Addr)) (fp : List Addr), PtsF (X.blk s H scope (compEnvC scope cl C X.env) fp) U.no ifs T)
    (he : ∀ (s : Shared) (H : Hp) (C : Addr) (cl : List (PySem.Str × Addr)) (fp : List Addr), PeF (X.blk s H scope (compEnvC scope cl C X.env) fp) U.no elt Fe)
    (hv : own.map (·.2) = vs := by rfl) (hw : ∀ i ∈ ws, i ∈ vs := by decide) (hs : ∀ x, foldedSetIterable iter X.env x = pure x := by intro _; rfl) :
    PeF X U (.ListComp elt [⟨tg, iter, ifs, 0⟩] scope pos) (dComp it G vs T Fe) := by
  obtain ⟨wi, p1, q1⟩ := hi
  subst hv
  have ht' : ∀ (s : Shared) (H : Hp) (C : Addr) (cl : List (PySem.Str × Addr)) (fp : List Addr), PTs (X.blk s H scope (compEnvC scope cl C X.env) fp) ifs (canonT X.K U.no T) := fun s H C cl fp => by
    obtain ⟨tt, p, q⟩ := ht s H C cl fp
    exact ⟨fun pins s' σ H' Q I ⟨Y, S, ρ, g, r, k⟩ => p.run pins s' σ H' Q I (q Y S H' σ ρ Q g r k)⟩
  have hg' : ∀ (s : Shared) (H : Hp) (C : Addr) (cl : List (PySem.Str × Addr)) (fp : List Addr), PG (X.blk s H scope (compEnvC scope cl C X.env) fp) tg (canonG X.K U.no ws G) := fun s H C cl fp => (hg s H C cl fp).canon
  have he' : ∀ (s : Shared) (H : Hp) (C : Addr) (cl : List (PySem.Str × Addr)) (fp : List Addr), PE (X.blk s H scope (compEnvC scope cl C X.env) fp) elt (canonE X.K U.no Fe) := fun s H C cl fp => (he s H C cl fp).canon
  exact ⟨_, pe_lc hc hN p1 ok hg' ht' he' hs, DE.comp q1 hw⟩
/-- name = [..] on one line, the name a local -/
theorem ps_setcomp {vs : List Nat} (i : Nat) {y : PySem.Str} {py : Pos} (hc : X.calm = true) (hN : X.N.Nodup) (hi : PiF X U tg iter it) (ok : BlkOk X.N X.env.scope scope own)
    (hg : ∀ (s : Shared) (H : Hp) (C : Addr) (cl : List (PySem.Str × Addr)) (fp : List Addr), PgF (X.blk s H scope (compEnvC scope cl C X.env) fp) U.no tg ws G)
    (ht : ∀ (s : Shared) (H : Hp) (C : Addr) (cl : List (PySem.Str × Addr)) (fp : List Addr), PtsF (X.blk s H scope (compEnvC scope cl C X.env) fp) U.no ifs T)
    (he : ∀ (s : Shared) (H : Hp) (C : Addr) (cl : List (PySem.Str × Addr)) (fp : List Addr), PeF (X.blk s H scope (compEnvC scope cl C X.env) fp) U.no elt Fe)
    (hsw : swapsWith (.ListComp elt [⟨tg, iter, ifs, 0⟩] scope pos) (some (.Name y py)) spos.line X.env = pure true)
    (hy : X.N[i]? = some y := by rfl) (hyl : X.env.scope.names.lookup y = some .local := by rfl)
    (hv : own.map (·.2) = vs := by rfl) (hw : ∀ i ∈ ws, i ∈ vs := by decide) (hs : ∀ x, foldedSetIterable iter X.env x = pure x := by intro _; rfl) :
    PsF X U (.Assign [.Name y py] (.ListComp elt [⟨tg, iter, ifs, 0⟩] scope pos) spos) (sAsg (dComp it G vs T Fe) (gName i)) := by
  obtain ⟨wi, p1, q1⟩ := hi
  subst hv
  have ht' : ∀ (s : Shared) (H : Hp) (C : Addr) (cl : List (PySem.Str × Addr)) (fp : List Addr), PTs (X.blk s H scope (compEnvC scope cl C X.env) fp) ifs (canonT X.K U.no T) := fun s H C cl fp => by
    obtain ⟨tt, p, q⟩ := ht s H C cl fp
    exact ⟨fun pins s' σ H' Q I ⟨Y, S, ρ, g, r, k⟩ => p.run pins s' σ H' Q I (q Y S H' σ ρ Q g r k)⟩
  have hg' : ∀ (s : Shared) (H : Hp) (C : Addr) (cl : List (PySem.Str × Addr)) (fp : List Addr), PG (X.blk s H scope (compEnvC scope cl C X.env) fp) tg (canonG X.K U.no ws G) := fun s H C cl fp => (hg s H C cl fp).canon
  have he' : ∀ (s : Shared) (H : Hp) (C : Addr) (cl : List (PySem.Str × Addr)) (fp : List Addr), PE (X.blk s H scope (compEnvC scope cl C X.env) fp) elt (canonE X.K U.no Fe) := fun s H C cl fp => (he s H C cl fp).canon
  refine ⟨_, ps_setLc hc hN hy hyl hsw p1 ok hg' ht' he' hs, fun Y S H σ ρ En g0 rs h => ?_⟩
  refine DE.comp (U0 := U.no) q1 hw Y S H σ ρ _ g0 rs ((Pst.bind h).imp fun d S1 Y1 H1 e1 g1 h1 v rv => ?_)
  exact h1.now g1 _ ((rs.mono e1).set rv i)
end
end WF

set_option Elab.async false
set_option linter.all false
set_option maxRecDepth 100000
set_option maxHeartbeats 4000000
/-! # Rules6: statements, loops, defs and their calls -/
namespace WF
open PySem L2 PyProof.Rows
section
variable {X : Cx} {U : Wh} {a b e : Expr} {Fa Fb : FE} {pos : Pos} {F G : FS}

/-! ### blocks and small statements -/
theorem pssf_nil : PssF X U [] sNil := ⟨_, pss_nil, fun Y S H σ ρ En g rs h => h.now g σ rs⟩
theorem EndsOk.nx {K : PySem.W.Frag} {En : Ends} {ts : TS} (hts : DS K U ts G) {c : Ctl} {S : Store} {Y : Lay} {H : Hp} (g : Good K Y S H)
    (h : Pst K U Y H (EndsOk K En) (match c with | .next ρ1 => G ρ1 S | .ret d => .ok (.ret d) S | .brk ρ1 => .ok (.brk ρ1) S | .cnt ρ1 => .ok (.cnt ρ1) S)) : EndsOk K { En with nx := ts En } c S Y H := by
  cases c with
  | next ρ1 => exact fun σ rs => hts Y S H σ ρ1 En g rs h
  | ret d => exact h.now g
  | brk ρ1 => exact h.now g
  | cnt ρ1 => exact h.now g
theorem pssf_cons {st : Stmt} {rest : List Stmt} (h1 : PsF X U st F) (h2 : PssF X U rest G) : PssF X U (st :: rest) (sSeq F G) := by
  obtain ⟨t1, p1, q1⟩ := h1
  obtain ⟨t2, p2, q2⟩ := h2
  exact ⟨_, pss_cons p1 p2, fun Y S H σ ρ En g rs h => q1 Y S H σ ρ _ g rs ((Pst.bind h).imp fun c S1 Y1 H1 e1 g1 h1 => EndsOk.nx q2 g1 h1)⟩
theorem pssf_one {st : Stmt} (h1 : PsF X U st F) : PssF X U [st] F := by
  obtain ⟨t1, p1, q1⟩ := h1
  exact ⟨_, pss_one p1, q1⟩
theorem psf_pass : PsF X U (.Pass pos) sNil := ⟨_, ps_pass, fun Y S H σ ρ En g rs h => h.now g σ rs⟩
theorem psf_break : PsF X U (.Break pos) sBrk := ⟨_, ps_break, fun Y S H σ ρ En g rs h => h.now g σ rs⟩
theorem psf_cont : PsF X U (.Continue pos) sCnt := ⟨_, ps_continue, fun Y S H σ ρ En g rs h => h.now g σ rs⟩
theorem psf_expr (ha : PeF X U a Fa) (hs : swapsWith a none pos.line X.env = pure false := by rfl) : PsF X U (.Expr a pos) (sExpr Fa) := by
  obtain ⟨ta, p, q⟩ := ha
  exact ⟨_, ps_expr p hs, fun Y S H σ ρ En g rs h => q Y S H σ ρ _ g rs ((Pst.bind h).imp fun d S1 Y1 H1 e1 g1 h1 v rv => h1.now g1 σ (rs.mono e1))⟩
theorem psf_ret (ha : PeF X U a Fa) : PsF X U (.Return (some a) pos) (sRet Fa) := by
  obtain ⟨ta, p, q⟩ := ha
  exact ⟨_, ps_ret p, fun Y S H σ ρ En g rs h => q Y S H σ ρ _ g rs ((Pst.bind h).imp fun d S1 Y1 H1 e1 g1 h1 v rv => h1.now g1 v rv)⟩
theorem psf_if {c : Expr} {T : FT} {as bs : List Stmt} (hc : PtF X U c T) (ha : PssF X U as F) (hb : PssF X U bs G) : PsF X U (.If c as bs pos) (sIf T F G) := by
  obtain ⟨t, p0, q0⟩ := hc
  obtain ⟨t1, p1, q1⟩ := ha
  obtain ⟨t2, p2, q2⟩ := hb
  refine ⟨_, ps_if p0 p1 p2, fun Y S H σ ρ En g rs h => q0 Y S H σ ρ _ g rs ((Pst.bind h).imp fun k S1 Y1 H1 e1 g1 h1 => ?_)⟩
  cases k with
  | true => exact q1 Y1 S1 H1 σ ρ En g1 (rs.mono e1) h1
  | false => exact q2 Y1 S1 H1 σ ρ En g1 (rs.mono e1) h1
/-- target = e -/
theorem psf_asg {tg : Expr} {ws : List Nat} {Gt : FG} (ha : PeF X U a Fa) (hg : PgF X U tg ws Gt) (hs : swapsWithSole [tg] a pos.line X.env = pure false := by rfl) (hw : swappedStores [tg] a X.env = pure none := by rfl)
    (h1 : (assignEach [tg] X.env).map (·.2) = [assign tg X.env] := by rfl) : PsF X U (.Assign [tg] a pos) (sAsg Fa Gt) := by
  obtain ⟨ta, p, q⟩ := ha
  obtain ⟨t2, p2, q2⟩ := hg
  refine ⟨_, ps_asg p p2 hs hw h1, fun Y S H σ ρ En g rs h => q Y S H σ ρ _ g rs ((Pst.bind h).imp fun d S1 Y1 H1 e1 g1 h1 v rv => ?_)⟩
  exact q2 Y1 S1 H1 σ ρ d v _ g1 (rs.mono e1) rv ((Pst.bind h1).imp fun ρ2 S2 Y2 H2 e2 g2 h2 σ2 rs2 _ _ => h2.now g2 σ2 rs2)
/-- name = e -/
theorem psf_set (i : Nat) {x : PySem.Str} {px : Pos} (hN : X.N.Nodup) (ha : PeF X U a Fa) (hi : X.N[i]? = some x := by rfl) (hx : Loc X.env.scope x := by first | exact Or.inl rfl | exact Or.inr rfl)
    (hs : swapsWith a (some (.Name x px)) pos.line X.env = pure false := by rfl) (hf : X.fn x = true ∨ X.env.scope.names.lookup x = some .local := by first | exact .inl rfl | exact .inr rfl | assumption) :
    PsF X U (.Assign [.Name x px] a pos) (sAsg Fa (gName i)) := by
  obtain ⟨ta, p, q⟩ := ha
  refine ⟨_, ps_set hN hi hx p hs hf, fun Y S H σ ρ En g rs h => q Y S H σ ρ _ g rs ((Pst.bind h).imp fun d S1 Y1 H1 e1 g1 h1 v rv => ?_)⟩
  exact h1.now g1 _ ((rs.mono e1).set rv i)
/-- a, b = x, y with plain local names -/
theorem psf_par2 (i j : Nat) {x y : PySem.Str} {px py pt : Pos} {kt k2 pt2} (hc : X.calm = true) (hN : X.N.Nodup) (ha : PaF X U [a, b] [Fa, Fb]) (hi : X.N[i]? = some x := by rfl) (hj : X.N[j]? = some y := by rfl) (hij : i ≠ j := by decide)
    (hx : X.env.scope.names.lookup x = some .local := by rfl) (hy : X.env.scope.names.lookup y = some .local := by rfl)
    (hw : swappedStores [.Tuple [.Name x px, .Name y py] kt pt] (.Tuple [a, b] k2 pt2) X.env = pure (some [x, y]) := by rfl)
    (hs : swapsWithSole [.Tuple [.Name x px, .Name y py] kt pt] (.Tuple [a, b] k2 pt2) pos.line X.env = pure false := by rfl) :
    PsF X U (.Assign [.Tuple [.Name x px, .Name y py] kt pt] (.Tuple [a, b] k2 pt2) pos) (sPar [i, j] [Fa, Fb]) := by
  obtain ⟨ta, p, q⟩ := ha
  refine ⟨_, ps_par hc hN hi hj hij hx hy p hw hs, fun Y S H σ ρ En g rs h => q Y S H σ ρ _ g rs ?_⟩
  unfold sPar at h
  cases e : evalAll [Fa, Fb] ρ S with
  | un => rw [e] at h; exact h
  | ex c T => rw [e] at h; exact h
  | ok ds T =>
    rw [e] at h
    have hl := evalAll_len e
    match ds, hl with
    | [d1, d2], _ =>
      intro Y1 H1 e1 g1 vs rv
      cases rv with
      | cons r1 rv =>
        cases rv with
        | cons r2 rv =>
          cases rv
          exact ⟨_, _, rfl, h Y1 H1 e1 g1 _ (((rs.mono e1).set r1 i).set r2 j)⟩
theorem psf_par3 (i j l : Nat) {c : Expr} {Fc : FE} {x y z : PySem.Str} {px py pz pt : Pos} {kt k2 pt2} (hc : X.calm = true) (hN : X.N.Nodup) (ha : PaF X U [a, b, c] [Fa, Fb, Fc]) (hi : X.N[i]? = some x := by rfl) (hj : X.N[j]? = some y := by rfl) (hl : X.N[l]? = some z := by rfl)
    (hij : i ≠ j := by decide) (hil : i ≠ l := by decide) (hjl : j ≠ l := by decide)
    (hx : X.env.scope.names.lookup x = some .local := by rfl) (hy : X.env.scope.names.lookup y = some .local := by rfl) (hz : X.env.scope.names.lookup z = some .local := by rfl)
    (hw : swappedStores [.Tuple [.Name x px, .Name y py, .Name z pz] kt pt] (.Tuple [a, b, c] k2 pt2) X.env = pure (some [x, y, z]) := by rfl)
    (hs : swapsWithSole [.Tuple [.Name x px, .Name y py, .Name z pz] kt pt] (.Tuple [a, b, c] k2 pt2) pos.line X.env = pure false := by rfl) :
    PsF X U (.Assign [.Tuple [.Name x px, .Name y py, .Name z pz] kt pt] (.Tuple [a, b, c] k2 pt2) pos) (sPar [i, j, l] [Fa, Fb, Fc]) := by
  obtain ⟨ta, p, q⟩ := ha
  refine ⟨_, ps_par3 hc hN hi hj hl hij hil hjl hx hy hz p hw hs, fun Y S H σ ρ En g rs h => q Y S H σ ρ _ g rs ?_⟩
  unfold sPar at h
  cases e : evalAll [Fa, Fb, Fc] ρ S with
  | un => rw [e] at h; exact h
  | ex c T => rw [e] at h; exact h
  | ok ds T =>
    rw [e] at h
    have hl := evalAll_len e
    match ds, hl with
    | [d1, d2, d3], _ =>
      intro Y1 H1 e1 g1 vs rv
      cases rv with
      | cons r1 rv =>
        cases rv with
        | cons r2 rv =>
          cases rv with
          | cons r3 rv =>
            cases rv
            exact ⟨_, _, _, rfl, h Y1 H1 e1 g1 _ ((((rs.mono e1).set r1 i).set r2 j).set r3 l)⟩
/-- x op= e -/
def IpF (X : Cx) (U : Wh) (op : Operator) (g : D → D → M D) : Prop :=
  ∃ r, PIp X op r ∧ ∀ Y S H a b x y Q, Good X.K Y S H → Rep X.K Y H a x → Rep X.K Y H b y → Pst X.K U Y H (PD X.K Q) (g a b S) → r x y H Q
theorem i_add : IpF X U .Add gAddI := by
  refine ⟨_, ip_add, fun Y S H a b x y Q g ra rb h => ?_⟩
  unfold gAddI at h
  split at h
  · cases ra; cases rb
    exact ⟨_, _, rfl, rfl, h.val g (.int _)⟩
  · exact h.elim
theorem psf_aug (i : Nat) {x : PySem.Str} {px : Pos} {op : Operator} {g : D → D → M D} (hN : X.N.Nodup) (hop : IpF X U op g) (ha : PeF X U a Fa) (hi : X.N[i]? = some x := by rfl) (hx : Loc X.env.scope x := by first | exact Or.inl rfl | exact Or.inr rfl)
    (hf : X.fn x = true ∨ X.env.scope.names.lookup x = some .local := by first | exact .inl rfl | exact .inr rfl | assumption) : PsF X U (.AugAssign (.Name x px) op a pos) (sAug g i Fa) := by
  obtain ⟨ta, p, q⟩ := ha
  obtain ⟨r, hr, hq⟩ := hop
  refine ⟨_, ps_aug hN hi hx p hr hf, fun Y S H σ ρ En g0 rs h => ?_⟩
  unfold sAug at h
  split at h
  · rename_i d e
    obtain ⟨v, h1, h2⟩ := rs.2 i d e
    refine ⟨v, h1, q Y S H σ ρ _ g0 rs ((Pst.bind h).imp fun d2 S1 Y1 H1 e1 g1 h3 y ry => hq Y1 S1 H1 d d2 v y _ g1 (h2.mono e1) ry ((Pst.bind h3).imp fun d3 S2 Y2 H2 e2 g2 h4 z rz => ?_))⟩
    exact h4.now g2 _ (((rs.mono e1).mono e2).set rz i)
  · exact h.elim

/-! ### a mutable list's item is stored -/
theorem Ext.mut {K : PySem.W.Frag} {Y : Lay} {S : Store} {H : Hp} {n : Nat} {p : Addr} {xs : List V} {o : HO} (g : Good K Y S H) (hl : Y.loc[n]? = some p) (h : H p = some (.lst xs)) : Ext Y H Y (upd H p o) :=
  Ext.chg hl (fun zs q => by
    rcases q with q | ⟨o, q⟩
    · rw [h] at q; cases q
    · rw [h] at q; cases q) (by rw [h]; exact fun z => nomatch z)
theorem Good.mutL {K : PySem.W.Frag} {Y : Lay} {S : Store} {H : Hp} {n : Nat} {p : Addr} {xs ys : List V} {es : List D} (g : Good K Y S H) (hl : Y.loc[n]? = some p) (h : H p = some (.lst xs)) (r : RepL K Y H es ys) :
    Good K Y (S.set n (.lst es)) (upd H p (.lst ys)) :=
  Good.chg g hl (fun zs q => by
    rcases q with q | ⟨o, q⟩
    · rw [h] at q; cases q
    · rw [h] at q; cases q) ⟨ys, upd_same, r.mono (Ext.mut g hl h)⟩
theorem pg_subL {o i : Expr} {Fo Fi : FE} (ho : PeF X U o Fo) (hi : PeF X U i Fi) (ha : ∀ v, assign (.Subscript o i pos) X.env v = (do
      let ov ← holding [v] (eval o X.env)
      let iv ← holding [v, ov] (eval i X.env)
      standAt pos
      holding [v, ov, iv] (setItem ov iv v)
      release [v, ov, iv] []) := by intro _; rfl) : PgF X U (.Subscript o i pos) [] (gSubL Fo Fi) := by
  obtain ⟨t1, p1, q1⟩ := ho
  obtain ⟨t2, p2, q2⟩ := hi
  refine ⟨_, pg_sub p1 p2 set_list ha, fun Y S H σ ρ d v Q g rs rd h => q1 Y S H σ ρ _ g rs ((Pst.bind h).imp fun x S1 Y1 H1 e1 g1 h1 xo rxo => q2 Y1 S1 H1 σ ρ _ g1 (rs.mono e1)
    ((Pst.bind h1).imp fun y S2 Y2 H2 e2 g2 h2 xi rxi => ?_))⟩
  have rd2 := (rd.mono e1).mono e2
  have rs2 := (rs.mono e1).mono e2
  have h3 := Pst.bind h2
  unfold setAt at h3
  split at h3
  · rename_i n k
    cases rxi
    cases rxo.mono e2 with
    | loc hl =>
      rename_i p
      split at h3
      · rename_i ds hds
        obtain ⟨xs, hx, rx⟩ := g2.at' n _ p hds hl
        split at h3
        · rename_i j hj
          refine ⟨p, xs, k, j, rfl, rfl, hx, by rw [← rx.len]; exact hj, ?_⟩
          have ex : Ext Y2 H2 Y2 (upd H2 p (.lst (xs.set j v))) := Ext.mut g2 hl hx
          have gx := g2.mutL hl hx (rx.set rd2 j)
          exact (h3 Y2 _ ex gx).now gx σ (rs2.mono ex) (fun _ _ => rfl) rfl
        · exact h3.elim
      · exact h3.elim
  · exact h3.elim

/-! ### for -/
def loopC (g : FG) (body : FS) (ds : List D) (w : Option Nat) (i : Nat) : FS := match w with
  | none => forL g body (ds.drop i)
  | some n => forN g body n ds.length (ds.length - i)
def stepL (g : FG) (body : FS) (d : D) (k : FS) : FS := fun ρ S => (g d ρ S).bind fun ρ1 S1 => (body ρ1 S1).bind fun c S2 => match c with
  | .next ρ2 => k ρ2 S2
  | .cnt ρ2 => k ρ2 S2
  | .brk ρ2 => .ok (.next ρ2) S2
  | .ret d => .ok (.ret d) S2
theorem loopC_end {g : FG} {body : FS} {ds : List D} {w : Option Nat} {ρ : Env} {S : Store} : loopC g body ds w ds.length ρ S = .un ∨ (∃ es, items S ds w = some es) ∧ loopC g body ds w ds.length ρ S = .ok (.next ρ) S := by
  cases w with
  | none =>
    right
    refine ⟨⟨ds, rfl⟩, ?_⟩
    show forL g body (ds.drop ds.length) ρ S = _
    rw [List.drop_length]
    rfl
  | some n =>
    show forN g body n ds.length (ds.length - ds.length) ρ S = .un ∨ _
    rw [Nat.sub_self]
    unfold forN
    split
    · rename_i es he
      by_cases h : es.length = ds.length
      · right
        refine ⟨⟨es, by unfold items; simp only [he, if_pos h]⟩, ?_⟩
        show forN g body n ds.length (ds.length - ds.length) ρ S = _
        rw [Nat.sub_self]
        unfold forN
        simp only [he, if_pos h]
      · left
        rw [if_neg h]
    · exact .inl rfl
theorem loopC_step {g : FG} {body : FS} {ds : List D} {w : Option Nat} {ρ : Env} {S : Store} {i : Nat} (hi : i < ds.length) :
    loopC g body ds w i ρ S = .un ∨ ∃ es d, items S ds w = some es ∧ es[i]? = some d ∧ loopC g body ds w i ρ S = stepL g body d (loopC g body ds w (i + 1)) ρ S := by
  cases w with
  | none =>
    right
    refine ⟨ds, ds[i], rfl, by simp [hi], ?_⟩
    show forL g body (ds.drop i) ρ S = stepL g body ds[i] (forL g body (ds.drop (i + 1))) ρ S
    rw [List.drop_eq_getElem_cons hi]
    rfl
  | some n =>
    have e1 : ds.length - i = (ds.length - (i + 1)) + 1 := by omega
    have e2 : ds.length - (ds.length - (i + 1) + 1) = i := by omega
    have eq : loopC g body ds (some n) i ρ S = forN g body n ds.length ((ds.length - (i + 1)) + 1) ρ S := by
      show forN g body n ds.length (ds.length - i) ρ S = _
      rw [e1]
    rw [eq]
    unfold forN
    rw [e2]
    split
    · rename_i es he
      by_cases h : es.length = ds.length
      · rw [if_pos h]
        split
        · rename_i d hd
          exact .inr ⟨es, d, by unfold items; simp only [he, if_pos h], hd, rfl⟩
        · exact .inl rfl
      · left
        rw [if_neg h]
    · exact .inl rfl
theorem psf_for {tg iter : Expr} {body : List Stmt} {it : FI} {ws : List Nat} {Gt : FG} (hp : PassesOwn (model X.prog X.w) X.A X.env X.xe) (hc : X.calm = true) (hi : PiF X U tg iter it) (hg : PgF X U tg ws Gt) (hb : PssF X U body F)
    (hs : ∀ x, foldedSetIterable iter X.env x = pure x := by intro _; rfl) : PsF X U (.For tg iter body [] pos) (sFor it Gt F) := by
  obtain ⟨wi, p1, q1⟩ := hi
  obtain ⟨t2, p2, q2⟩ := hg
  obtain ⟨t3, p3, q3⟩ := hb
  refine ⟨_, ps_for hp hc p1 p2 p3 hs, fun Y S H σ ρ En g0 rs h => q1 Y S H σ ρ _ g0 rs ((Pst.bind h).imp fun p S1 Y1 H1 e1 g1 h1 J wk => ?_)⟩
  obtain ⟨ds, w⟩ := p
  have h2 : Pst X.K U Y1 H1 (EndsOk X.K En) (loopC Gt F ds w 0 ρ S1) := by
    cases w with
    | none => exact h1
    | some n => exact h1
  refine ⟨fun i m σ' H' => ∃ Y' S' ρ', m = ds.length - i ∧ i ≤ ds.length ∧ Ext Y1 H1 Y' H' ∧ Good X.K Y' S' H' ∧ RepS X.K Y' H' ρ' σ' ∧ Pst X.K U Y' H' (EndsOk X.K En) (loopC Gt F ds w i ρ' S'), ?_, ?_⟩
  · exact ⟨_, Y1, S1, ρ, rfl, Nat.zero_le _, Ext.refl, g1, rs.mono e1, h2⟩
  · rintro i m σ' H' ⟨Y', S', ρ', rfl, hi', eX, gX, rX, hP⟩
    by_cases hlt : i < ds.length
    · rcases loopC_step (g := Gt) (body := F) (w := w) (ρ := ρ') (S := S') hlt with z | ⟨es, d, hes, hd, z⟩
      · rw [z] at hP; exact hP.elim
      · rw [z] at hP
        have hes' := items_len hes
        refine .inr ⟨wk.go i Y' S' H' es eX gX hes (by omega), fun σ'' H'' => ∃ m', m' < ds.length - i ∧ ∃ Y' S' ρ', m' = ds.length - (i + 1) ∧ i + 1 ≤ ds.length ∧ Ext Y1 H1 Y' H'' ∧ Good X.K Y' S' H'' ∧ RepS X.K Y' H'' ρ' σ'' ∧
          Pst X.K U Y' H'' (EndsOk X.K En) (loopC Gt F ds w (i + 1) ρ' S'), fun _ _ q => q, fun x H2 hy => ?_⟩
        obtain ⟨d', hd', e2, g2, k2, r2⟩ := wk.yld i Y' S' H' es x H2 eX gX hes (by omega) hy
        rw [hd] at hd'
        cases hd'
        have hP2 := hP.mono e2
        unfold stepL at hP2
        refine q2 Y' S' H2 σ' ρ' d x _ g2 (rX.mono e2) r2 ((Pst.bind hP2).imp fun ρ3 S3 Y3 H3 e3 g3 h3 σ3 rs3 _ _ => ?_)
        refine q3 Y3 S3 H3 σ3 ρ3 _ g3 rs3 ((Pst.bind h3).imp fun c S4 Y4 H4 e4 g4 h4 => ?_)
        have eX4 : Ext Y1 H1 Y4 H4 := ((eX.trans e2).trans e3).trans e4
        cases c with
        | next ρ4 => exact fun σ4 rs4 => ⟨_, by omega, Y4, S4, ρ4, rfl, hlt, eX4, g4, rs4, h4⟩
        | cnt ρ4 => exact fun σ4 rs4 => ⟨_, by omega, Y4, S4, ρ4, rfl, hlt, eX4, g4, rs4, h4⟩
        | brk ρ4 => exact fun σ4 rs4 => h4.now g4 σ4 rs4
        | ret d4 => exact fun v rv => h4.now g4 v rv
    · have e : i = ds.length := by omega
      subst e
      left
      rcases loopC_end (g := Gt) (body := F) (ds := ds) (w := w) (ρ := ρ') (S := S') with z | ⟨⟨es, hes⟩, z⟩
      · rw [z] at hP; exact hP.elim
      · rw [z] at hP
        have hs := wk.stop Y' S' H' es eX gX hes
        rw [items_len hes] at hs
        exact ⟨hs, hP.now gX σ' rX⟩
/-- while, with a bound on its turns -/
theorem psf_while {c : Expr} {T : FT} {body : List Stmt} (n : Env → Store → Nat) (hp : PassesOwn (model X.prog X.w) X.A X.env X.xe) (hc : PtF X U c T) (hb : PssF X U body F) : PsF X U (.While c body [] pos) (sWhile n T F) := by
  obtain ⟨t1, p1, q1⟩ := hc
  obtain ⟨t2, p2, q2⟩ := hb
  refine ⟨_, ps_while hp p1 p2, fun Y S H σ ρ En g0 rs h => ?_⟩
  refine ⟨fun m σ' H' => ∃ Y' S' ρ', Good X.K Y' S' H' ∧ RepS X.K Y' H' ρ' σ' ∧ Pst X.K U Y' H' (EndsOk X.K En) (whileN T F m ρ' S'), ⟨_, Y, S, ρ, g0, rs, h⟩, ?_⟩
  rintro m σ' H' ⟨Y', S', ρ', gX, rX, hP⟩
  cases m with
  | zero => exact hP.elim
  | succ m =>
    unfold whileN at hP
    refine q1 Y' S' H' σ' ρ' _ gX rX ((Pst.bind hP).imp fun k S1 Y1 H1 e1 g1 h1 => ?_)
    cases k with
    | false =>
      rw [if_neg Bool.false_ne_true] at h1 ⊢
      exact h1.now g1 σ' (rX.mono e1)
    | true =>
      rw [if_pos rfl] at h1 ⊢
      refine ⟨fun σ'' H'' => ∃ m', m' < m + 1 ∧ ∃ Y' S' ρ', Good X.K Y' S' H'' ∧ RepS X.K Y' H'' ρ' σ'' ∧ Pst X.K U Y' H'' (EndsOk X.K En) (whileN T F m' ρ' S'), fun _ _ q => q, ?_⟩
      refine q2 Y1 S1 H1 σ' ρ' _ g1 (rX.mono e1) ((Pst.bind h1).imp fun c S2 Y2 H2 e2 g2 h2 => ?_)
      cases c with
      | next ρ4 => exact fun σ4 rs4 => ⟨m, Nat.lt_succ_self _, Y2, S2, ρ4, g2, rs4, h2⟩
      | cnt ρ4 => exact fun σ4 rs4 => ⟨m, Nat.lt_succ_self _, Y2, S2, ρ4, g2, rs4, h2⟩
      | brk ρ4 => exact fun σ4 rs4 => h2.now g2 σ4 rs4
      | ret d4 => exact fun v rv => h2.now g2 v rv

/-! ### raise -/
/-- what the written part says of an own exception class -/
structure ExcC (K : PySem.W.Frag) (mg : PySem.Str → Option Value) (x : PySem.Str) (C : Addr) : Prop where
  ex : PySem.W.excIn K C [.type "ValueError", .type "Exception", .type "BaseException", .type "object"] "ValueError.__new__" = true
  mg : mg x = some (.ref C)
  kp : PySem.W.keepIn K (.ref C) = true
  sb : PySem.W.subIn K (.ref C) (.type "BaseException") = some true
  ty : PySem.W.typeIn K (.ref C) = some (.type "type")
theorem psf_raise {x m : PySem.Str} {c j : Nat} {p p2 p3 : Pos} (T : ExcC X.K X.mg x (U.cl c)) (hc : X.calm = true) (tk : Takes X (fun c d _ H => U.E c d H)) (hg : Gl X x := by rfl) (hd : (x == ("__debug__" : PySem.Str)) = false := by decide) :
    PsF X U (.Raise (some (.Call (.Name x p) [.Constant (.str m) j p2] [] p3)) none pos) (sRaise c) := by
  refine ⟨_, ps_raise hc tk (pmk_own PySem.F.excBase_ValueError T.ex T.mg T.kp (raises_own T.sb T.ty) hg hd), fun Y S H σ ρ En g rs h => ?_⟩
  exact h Y H Ext.refl g
end

/-! ### defs -/
/-- what the rules want of a context -/
structure CxOk (X : Cx) (U : Wh) (k : Nat) : Prop where
  calm : X.calm = true
  nd : X.N.Nodup
  room : Room k X.A
  pass : Passes (L2.CX X.prog X.w) X U.E
  own : PassesOwn (model X.prog X.w) X.A X.env X.xe
  take : Takes X (fun c d _ H => U.E c d H)
theorem CxOk.hu {X : Cx} {U : Wh} {k : Nat} (C : CxOk X U k) : X.A.units + 64 < cLine := C.room.units
theorem CxOk.blk {X : Cx} {U : Wh} {k : Nat} (C : CxOk X U k) {s : Shared} {H : Hp} {scope : Scope} {env : PySem.Env} {fp : List Addr} : CxOk (X.blk s H scope env fp) U.no k :=
  ⟨C.calm, C.nd, C.room, passL, PassesOwn.never, takes0⟩

/-- a def's promise -/
def spF (K : PySem.W.Frag) (cl : Nat → Addr) (n : Nat) (F : FF) : Sp := fun vs H Q E => vs.length = n ∧ ∃ Y S ds, Good K Y S H ∧ RepL K Y H ds vs ∧ Pst K ⟨E, cl⟩ Y H (PD K Q) (F ds S)
structure FnD (P : Program) (w : World) (K : PySem.W.Frag) (mg : PySem.Str → Option Value) (base : Heap) (cl : Nat → Addr) (x : PySem.Str) (n k : Nat) (F : FF) : Prop where
  ex : ∃ (a : Addr) (fd : FuncData) (ps : List PySem.Str), ps.length = n ∧ FnOk P w K mg base (L2.CX P w) k a fd ps (spF K cl n F) ∧ mg x = some (.ref a) ∧ PySem.W.keepIn K (.ref a) = true ∧ Binds K fd ps []
theorem FnD.mono {P : Program} {w : World} {K : PySem.W.Frag} {mg : PySem.Str → Option Value} {base : Heap} {cl : Nat → Addr} {x : PySem.Str} {n j k : Nat} {F : FF} (h : FnD P w K mg base cl x n j F) (hk : j ≤ k) : FnD P w K mg base cl x n k F := by
  obtain ⟨a, fd, ps, h1, h2, h3⟩ := h
  exact ⟨a, fd, ps, h1, h2.mono hk, h3⟩
theorem fnd_un {P : Program} {w : World} {K : PySem.W.Frag} {mg : PySem.Str → Option Value} {base : Heap} {cl : Nat → Addr} {x : PySem.Str} {a : Addr} {fd : FuncData} {ps : List PySem.Str} (hm : mg x = some (.ref a)) (hk : PySem.W.keepIn K (.ref a) = true) (hb : Binds K fd ps []) :
    FnD P w K mg base cl x ps.length 0 fUn := by
  have no : ∀ vs H Q E, ¬ spF K cl ps.length fUn vs H Q E := fun vs H Q E ⟨_, _, _, _, _, _, h⟩ => h.elim
  exact ⟨a, fd, ps, rfl, ⟨fun vs H Q E h => absurd h (no vs H Q E), fun A outer s H args us vs Q E _ _ _ _ h => absurd h (no vs H Q E)⟩, hm, hk, hb⟩
section
variable {X : Cx} {U : Wh} {k : Nat} {e : Expr} {es : List Expr} {Fs : List FE} {pos : Pos}
/-- f(e, ..) -/
theorem pf_call {x : PySem.Str} {n j : Nat} {F : FF} {p : Pos} (C : CxOk X U k) (h : FnD X.prog X.w X.K X.mg X.base U.cl x n j F) (hj : j ≤ k) (ha : PaF X U (e :: es) Fs) (hl : Fs.length = n := by rfl) (hg : Gl X x := by rfl) (hdb : (x == ("__debug__" : PySem.Str)) = false := by decide)
    (he : starEach (e :: es) X.env = (false, eval e X.env) :: starEach es X.env := by rfl) (hpl : (backTo pos (starEach es X.env)).any (·.1) = false := by rfl) : PeF X U (.Call (.Name x p) (e :: es) [] pos) (dCall F Fs) := by
  obtain ⟨a, fd, ps, hn, hF, hm, hk, hb⟩ := h
  obtain ⟨ta, p1, q1⟩ := ha
  refine ⟨_, pe_call (E := U.E) hF (C.room.mono hj) hg hm hk hb .nil C.pass p1 hdb he hpl, fun Y S H σ ρ Q g0 rs h => q1 Y S H σ ρ _ g0 rs ?_⟩
  unfold dCall at h
  cases ev : evalAll Fs ρ S with
  | un => rw [ev] at h; exact h
  | ex c T => rw [ev] at h; exact h
  | ok ds T =>
    rw [ev] at h
    intro Y1 H1 e1 g1 vs rv
    have hz := evalAll_len ev
    rw [List.append_nil]
    exact ⟨by rw [← rv.len, hz, hl], Y1, T, ds, g1, rv, Pst.mono (r := F ds T) h e1⟩
theorem pf_call0 {x : PySem.Str} {j : Nat} {F : FF} {p : Pos} (C : CxOk X U k) (h : FnD X.prog X.w X.K X.mg X.base U.cl x 0 j F) (hj : j ≤ k) (hg : Gl X x := by rfl) (hdb : (x == ("__debug__" : PySem.Str)) = false := by decide) :
    PeF X U (.Call (.Name x p) [] [] pos) (dCall F []) := by
  obtain ⟨a, fd, ps, hn, hF, hm, hk, hb⟩ := h
  refine ⟨_, pe_call0 (E := U.E) hF (C.room.mono hj) hg hm hk hb .nil C.pass hdb, fun Y S H σ ρ Q g0 rs h => ?_⟩
  exact ⟨rfl, Y, S, [], g0, .nil, h⟩
end
theorem repS_start {K : PySem.W.Frag} {Y : Lay} {H : Hp} {ds : List D} {vs : List V} {N : List PySem.Str} (r : RepL K Y H ds vs) : RepS K Y H (startE N.length ds) (L2.start N vs) := by
  unfold startE L2.start
  rw [r.len]
  refine ⟨by simp [r.len], fun i d h => ?_⟩
  by_cases hi : i < ds.length
  · rw [List.getElem?_append_left (by simpa using hi), List.getElem?_map] at h
    cases e : ds[i]? with
    | none => rw [e] at h; cases h
    | some d' =>
      rw [e] at h
      cases h
      obtain ⟨v, h1, h2⟩ := r.get e
      refine ⟨v, ?_, h2⟩
      rw [List.getElem?_append_left (by rw [List.length_map, ← r.len]; exact hi), List.getElem?_map, h1]
      rfl
  · rw [List.getElem?_append_right (by simpa using hi), List.getElem?_replicate] at h
    split at h <;> cases h
section
variable {P : Program} {w : World} {K : PySem.W.Frag} {mg : PySem.Str → Option Value} {base : Heap} {cl : Nat → Addr}
/-- a def, by its body -/
theorem fnok_mk {x qual : PySem.Str} {st : Stmt} {f : Addr} {fd : FuncData} {N ps : List PySem.Str} {k : Nat} {cl : Nat → Addr} {F : FS} (Fn : Fun K x qual st f fd) (S : FnScope N ps (defScope st))
    (body : ∀ (cdv : Value) (A : Around) (outer : List PySem.Env) (s : Shared) (H : Hp) (E : XK), CxOk (cxOf (L2.CX P w) P w K mg base N qual (defScope st) f cdv A outer s H E) ⟨E, cl⟩ k →
      PssF (cxOf (L2.CX P w) P w K mg base N qual (defScope st) f cdv A outer s H E) ⟨E, cl⟩ (defBody st) F) : FnOk P w K mg base (L2.CX P w) (k + 1) f fd ps (spF K cl ps.length (runDef N.length F)) := by
  refine Fn.okX S (fun vs H Q E h => h.1) (fun cdv A outer s H vs Q E hr h => ?_)
  obtain ⟨hl, Y, T, ds, g, r, hP⟩ := h
  have C : CxOk (cxOf (L2.CX P w) P w K mg base N qual (defScope st) f cdv A outer s H E) ⟨E, cl⟩ k :=
    ⟨rfl, S.nd, hr, passes_call (W := fun c d _ H => E c d H) (takes_of rfl rfl rfl rfl) fun _ _ _ _ h => h, passes_of rfl, takes_of rfl rfl rfl rfl⟩
  obtain ⟨t, p, q⟩ := body cdv A outer s H E C
  refine ⟨t, p, q Y T H (L2.start N vs) (startE N.length ds) _ g (repS_start r) ?_⟩
  unfold runDef at hP
  refine (Pst.bind hP).imp fun c S1 Y1 H1 e1 g1 h1 => ?_
  cases c with
  | next ρ1 => exact fun σ rs => h1.now g1 .non .non
  | ret d => exact fun v rv => h1.now g1 v rv
  | brk ρ1 => exact h1.elim
  | cnt ρ1 => exact h1.elim
theorem fnd_mk {x qual : PySem.Str} {st : Stmt} {f : Addr} {fd : FuncData} {N ps : List PySem.Str} {k : Nat} {cl : Nat → Addr} {F : FS} (Fn : Fun K x qual st f fd) (S : FnScope N ps (defScope st)) (hb : Binds K fd ps []) (hm : mg x = some (.ref f))
    (body : ∀ (cdv : Value) (A : Around) (outer : List PySem.Env) (s : Shared) (H : Hp) (E : XK), CxOk (cxOf (L2.CX P w) P w K mg base N qual (defScope st) f cdv A outer s H E) ⟨E, cl⟩ k →
      PssF (cxOf (L2.CX P w) P w K mg base N qual (defScope st) f cdv A outer s H E) ⟨E, cl⟩ (defBody st) F) : FnD P w K mg base cl x ps.length (k + 1) (runDef N.length F) :=
  ⟨f, fd, ps, rfl, fnok_mk Fn S body, hm, Fn.kp, hb⟩
end
end WF

set_option Elab.async false
set_option linter.all false
set_option maxRecDepth 100000
set_option maxHeartbeats 4000000
/-! # Rules7: a written dict asked at once; signs -/
namespace WF
open PySem L2 PyProof.Rows
section
variable {X : Cx} {U : Wh} {a b e : Expr} {Fa Fb Fe : FE} {pos : Pos}
theorem pf_neg (ha : PeF X U a Fa) : PeF X U (.UnaryOp .USub a pos) (dUn gNeg Fa) := by
  obtain ⟨ta, p, q⟩ := ha
  refine ⟨_, pe_un un_neg p, fun Y S H σ ρ Q g0 rs h => q Y S H σ ρ _ g0 rs ((Pst.bind h).imp fun d S1 Y1 H1 e1 g1 h1 x rx => ?_)⟩
  unfold gNeg at h1
  split at h1
  · cases rx
    exact ⟨_, rfl, h1.val g1 (.int _)⟩
  · exact h1.elim

/-- a list and a list together, to be changed -/
theorem pf_catNew (ha : PeF X U a Fa) (hb : PeF X U b Fb) : PeF X U (.BinOp a .Add b pos) (dCatNew Fa Fb) := by
  obtain ⟨ta, p1, q1⟩ := ha
  obtain ⟨tb, p2, q2⟩ := hb
  refine ⟨_, pe_op op_catL p1 p2, fun Y S H σ ρ Q g0 rs h => q1 Y S H σ ρ _ g0 rs ((Pst.bind h).imp fun d1 S1 Y1 H1 e1 g1 h1 x rx => q2 Y1 S1 H1 σ ρ _ g1 (rs.mono e1) ((Pst.bind h1).imp fun d2 S2 Y2 H2 e2 g2 h2 y ry => ?_))⟩
  split at h2
  · obtain ⟨hc, h2⟩ := ite_ok h2
    obtain ⟨p1, x1, rfl, s1, r1⟩ := lst_read (S := S2) g2 (rx.mono e2) rfl
    obtain ⟨p2, x2, rfl, s2, r2⟩ := lst_read (S := S2) g2 ry rfl
    have l1 := r1.len
    have l2 := r2.len
    refine ⟨_, _, _, _, rfl, rfl, s1, s2, by rw [← lim_eq, ← l1, ← l2]; exact hc, fun p hp => ?_⟩
    have hx : Ext Y2 H2 (Y2.add p) (upd H2 p (.lst (x1 ++ x2))) := Ext.add hp
    refine h2 (Y2.add p) _ hx (g2.add hp ⟨_, upd_same, (r1.append r2).mono hx⟩) _ (Rep.loc ?_)
    show (Y2.loc ++ [p])[S2.length]? = some p
    rw [← g2.len, List.getElem?_append_right (Nat.le_refl _)]
    simp
  · exact h2.elim

/-! ### {k: v, ..}[e] -/
abbrev ksV (ks : List Cs) (vs : List V) : List (V × V) := (ks.map fun k => V.str (sv k)).zip vs
abbrev ksK (ks : List Cs) (vs : List V) : List (Key × V) := (ks.map fun k => (Sum.inr (sv k) : Key)).zip vs
structure PpF (X : Cx) (U : Wh) (pos : Pos) (keys : List (Option Expr)) (vals : List Expr) (ks : List Cs) (Fs : List FE) : Prop where
  ex : ∃ trs, PPs X pos keys vals trs ∧ ∀ Y S H σ ρ Q, Good X.K Y S H → RepS X.K Y H ρ σ → Pst X.K U Y H (fun ds _ Y' H' => ∀ vs, RepL X.K Y' H' ds vs → Q (ksV ks vs) H') (evalAll Fs ρ S) → tPairs trs σ H Q
theorem pp_nil : PpF X U pos [] [] [] [] := ⟨_, pps_nil, fun Y S H σ ρ Q g rs h => h.now g [] .nil⟩
theorem pp_cons {x : PySem.Str} {k : Cs} {j : Nat} {p : Pos} {keys : List (Option Expr)} {vals : List Expr} {ks : List Cs} {Fs : List FE} (hx : x = sv k) (ha : PeF X U a Fa) (hr : PpF X U pos keys vals ks Fs) :
    PpF X U pos (some (.Constant (.str x) j p) :: keys) (a :: vals) (k :: ks) (Fa :: Fs) := by
  obtain ⟨ta, p1, q1⟩ := ha
  obtain ⟨trs, p2, q2⟩ := hr
  refine ⟨_, pps_cons pe_str p1 p2, fun Y S H σ ρ Q g rs h => ?_⟩
  refine q1 Y S H σ ρ _ g rs ((Pst.bind h).imp fun d S1 Y1 H1 e1 g1 h1 v rv => q2 Y1 S1 H1 σ ρ _ g1 (rs.mono e1) ((Pst.bind h1).imp fun ds S2 Y2 H2 e2 g2 h2 vs rvs => ?_))
  have h3 := h2.now g2 (v :: vs) (.cons (rv.mono e2) rvs)
  rw [hx]
  exact h3
theorem valV_mergeK (j : Key) : ∀ (more acc : List (Key × V)), (more.map (·.1)).Nodup → valV (mergeK acc more) j = match valV more j with
    | some v => some v
    | none => valV acc j
  | [], acc, _ => rfl
  | p :: r, acc, nd => by
    have nd' : p.1 ∉ r.map (·.1) ∧ (r.map (·.1)).Nodup := by simpa using nd
    show valV (mergeK (putK acc p.1 p.2) r) j = _
    rw [valV_mergeK j r _ nd'.2, valV_put]
    by_cases e : p.1 = j
    · rw [valV_pos e]
      have : valV r j = none := by
        cases q : valV r j with
        | none => rfl
        | some v =>
          unfold valV at q
          cases f : r.find? fun kv => decide (kv.1 = j) with
          | none => rw [f] at q; cases q
          | some kv =>
            have hm := List.mem_of_find?_eq_some f
            have hk := List.find?_some f
            have hk' : kv.1 = j := of_decide_eq_true hk
            exact absurd (List.mem_map.mpr ⟨kv, hm, hk'.trans e.symm⟩) nd'.1
      rw [this]
      exact if_pos e.symm
    · rw [valV_neg e]
      cases valV r j with
      | some v => rfl
      | none => exact if_neg fun z => e z.symm
theorem pick_rep {K : PySem.W.Frag} {Y : Lay} {H : Hp} {s : Cs} {d : D} : ∀ {ks : List Cs} {ds : List D} {vs : List V}, RepL K Y H ds vs → (ks.zip ds).lookup s = some d → ∃ v, valV (ksK ks vs) (Sum.inr (sv s)) = some v ∧ Rep K Y H d v
  | [], _, _, _, h => by simp at h
  | k :: ks, _, _, .nil, h => by simp at h
  | k :: ks, _, _, .cons (d := d0) (ds := ds) (v := v0) (vs := vs) r t, h => by
    rw [List.zip_cons_cons, List.lookup_cons] at h
    by_cases e : s = k
    · subst e
      simp only [beq_self_eq_true] at h
      cases h
      exact ⟨v0, valV_pos rfl, r⟩
    · have e' : (s == k) = false := by simpa using e
      rw [e'] at h
      obtain ⟨v, h1, h2⟩ := pick_rep t h
      refine ⟨v, ?_, h2⟩
      show valV (((Sum.inr (sv k) : Key), v0) :: ksK ks vs) _ = _
      rw [valV_neg fun z => e (sv_inj.mp (Sum.inr.inj z)).symm]
      exact h1
theorem nodup_sv : ∀ {ks : List Cs}, ks.Nodup → (ks.map fun k => (Sum.inr (sv k) : Key)).Nodup
  | [], _ => List.nodup_nil
  | k :: ks, h => by
    rw [List.nodup_cons] at h
    rw [List.map_cons, List.nodup_cons]
    refine ⟨fun z => ?_, nodup_sv h.2⟩
    obtain ⟨x, hx, e⟩ := List.mem_map.mp z
    exact h.1 (sv_inj.mp (Sum.inr.inj e) ▸ hx)
theorem ksK_keys {ks : List Cs} (nd : ks.Nodup) (vs : List V) (hl : ks.length = vs.length) : ((ksK ks vs).map (·.1)).Nodup := by
  unfold ksK
  rw [List.map_fst_zip (by simp [hl])]
  exact nodup_sv nd
theorem ksV_eq : ∀ (ks : List Cs) (vs : List V), ksV ks vs = (ksK ks vs).map fun kv => (kV kv.1, kv.2)
  | [], _ => rfl
  | _ :: _, [] => rfl
  | k :: ks, v :: vs => congrArg ((V.str (sv k), v) :: ·) (ksV_eq ks vs)
theorem pf_pick {keys : List (Option Expr)} {vals : List Expr} {ks : List Cs} {Fs : List FE} {p1 : Pos} {k : Nat} (C : CxOk X U k) (h : PpF X U p1 keys vals ks Fs) (hi : PeF X U e Fe) (nd : ks.Nodup := by decide)
    (hkl : ks.length = Fs.length := by rfl) (h15 : Fs.length ≤ 15 := by decide)
    (hall : keys.all (·.isSome) = true := by rfl) (hl : keys.length = vals.length := by rfl) (h0 : keys ≠ [] := by exact fun z => nomatch z) (hk15 : keys.length ≤ 15 := by decide) (hs : NoSl e := by exact fun _ _ => rfl) :
    PeF X U (.Subscript (.Dict keys vals p1) e pos) (dPick ks Fs Fe) := by
  obtain ⟨trs, p2, q2⟩ := h
  obtain ⟨te, p3, q3⟩ := hi
  refine ⟨_, pe_dget (hu_of C.room) (pe_disp p2 hall hl h0 hk15) p3 hs, fun Y S H σ ρ Q g rs h p hp => ?_⟩
  unfold dPick at h
  have e0 : Ext Y H (Y.hide p) (upd H p (.dK [])) := ext_hide hp
  have hpl : p ∉ Y.loc := fun z => g.there p (Y.sub p z) hp
  refine q2 (Y.hide p) S _ σ ρ _ (good_hide g hp) (rs.mono e0) ?_
  cases ev : evalAll Fs ρ S with
  | un => rw [ev] at h; exact h
  | ex c T => rw [ev] at h; exact Pst.mono (r := (.ex c T : Res (List D))) (Φ := fun _ _ _ _ => True) h e0
  | ok ds S1 =>
    rw [ev] at h
    simp only [Res.ok_bind] at h
    intro Y1 H1 e1 g1 vs rv
    have hH1 : H1 p = some (.dK []) := e1.keep p _ upd_same hpl
    have hpl1 : p ∉ Y1.loc := fun z => by
      rcases e1.newl p z with q | q
      · exact hpl q
      · rw [upd_same] at q; cases q
    have hlen : ks.length = vs.length := by rw [← rv.len, evalAll_len ev, hkl]
    refine ⟨hH1, ksK ks vs, ksV_eq ks vs, ?_, ?_⟩
    · unfold ksK
      rw [List.length_zip, List.length_map]
      omega
    · have nt : ∀ xs, ¬ Rd H1 p (.tup xs) := fun xs q => by
        rcases q with q | ⟨o, q⟩
        · rw [hH1] at q; cases q
        · rw [hH1] at q; cases q
      have vp : Y1.vol p := e1.vol p (.inr rfl)
      have eV : ExtV Y1 H1 Y1 (upd H1 p (.dK (mergeK [] (ksK ks vs)))) := extV_upd vp nt
      have g2 := good_upd (o := .dK (mergeK [] (ksK ks vs))) g1 vp hpl1 nt
      have eX : Ext Y H Y1 (upd H1 p (.dK (mergeK [] (ksK ks vs)))) := ext_upd (e0.trans e1) hp
      refine q3 Y1 S1 _ σ ρ _ g2 (rs.mono eX) ((Pst.bind (Pst.mono h eX)).imp fun x S2 Y3 H3 e3 g3 h3 y ry => ?_)
      have hp3 : H3 p = some (.dK (mergeK [] (ksK ks vs))) := e3.keep p _ upd_same hpl1
      cases ry with
      | str s =>
        simp only at h3
        split at h3
        · rename_i d hd
          obtain ⟨v, hv, rd⟩ := pick_rep ((rv.monoV eV).mono e3) hd
          refine ⟨p, v, rfl, ?_, h3.val g3 rd⟩
          have e := DGet.k (k := Sum.inr (sv s)) hp3
          rw [valV_mergeK _ _ _ (ksK_keys nd vs hlen), hv] at e
          exact e
        · exact h3.elim
      | _ => exact h3.elim
end
end WF

set_option Elab.async false
set_option linter.all false
set_option maxRecDepth 100000
set_option maxHeartbeats 4000000
/-! # Rules8: enumerate over a text; is True, is False; the end of a row -/
namespace WF
open PySem L2 PyProof.Rows

/-! ### enumerate(text) -/
def ItE (x : PySem.Str) : It :=
  ⟨fun i _ => i < x.cps.size, fun i H v H' => ∃ T c, v = .ref T ∧ H T = none ∧ H' = upd H T (.tup [.int (i : Nat), .str ⟨#[c]⟩]) ∧ x.cps[i]? = some c, fun i _ => i = x.cps.size⟩
theorem turn_enumS {P : Program} {w : World} {K : PySem.W.Frag} {elts : List Expr} {kk : Nat} {tpos : Pos} (x : PySem.Str) (t : Tok) (e it : Addr) (hne : e ≠ it) :
    Turn P w K (.Tuple elts kk tpos) (ItE x) [e, it] e (fun i h => (∃ old, IsEnum h e it (0 + (i : Int)) old) ∧ h.IsStrIter it (strIterType x) x t i) where
  mem := by simp
  obj := fun i h st b hb => by
    obtain ⟨⟨old, he⟩, ⟨o, ho, hc, hd⟩⟩ := st
    have e' : b = e ∨ b = it := by simpa using hb
    rcases e' with z | z
    · rw [z]; exact ⟨_, he, fun v q => nomatch q⟩
    · rw [z]; exact ⟨o, ho, fun v q => by rw [hd] at q; cases q⟩
  keep := fun i h h' st k => by
    obtain ⟨⟨old, he⟩, ⟨o, ho, r⟩⟩ := st
    exact ⟨⟨old, k e (by simp) _ he⟩, ⟨o, k it (by simp) o ho, r⟩⟩
  item := by
    intro X hP hw hK hc i pins s σ H E I hf st hg
    subst hP hw hK
    have D := Draws.text (prog := X.prog) (w := X.w) (A := X.A.in1) (show X.A.in1.handled = none from I.ok.hd hc) it x t
    have W := WalksT.enumFrom 0 D e hne (by simp [hne]) (by simp)
    refine W.item i s _ _ hg st fun T vals h' tk hv hT ht hm hk => ?_
    obtain ⟨tk2, u, ⟨c, u2, hcx, rfl⟩, rfl⟩ := hv
    have hap := W.apart i T h' hm
    refine ⟨_, rfl, W.go elts kk tpos i T { s with heap := h', toks := tk } _ _ hm fun h'' st' hk' => ?_⟩
    have ht2 : h''.IsTuple T #[.int (0 + (i : Int)) tk2, .str ⟨#[c]⟩ u2] := ht.at fun o q => hk' T o hap q
    have e0 : (0 : Int) + (i : Int) = ((i : Nat) : Int) := by omega
    have new : ObjOk X.prog X.w (upd H T (.tup [.int (i : Nat), .str ⟨#[c]⟩])) h'' T (.tup [.int (i : Nat), .str ⟨#[c]⟩]) := by
      rw [e0] at ht2
      exact ⟨by show 2 ≤ sizeLine; decide, [.int i tk2, .str ⟨#[c]⟩ u2], .cons ⟨_, rfl⟩ (.cons ⟨_, rfl⟩ .nil), ht2⟩
    have hle : e < s.heap.objs.size ∧ it < s.heap.objs.size := by
      obtain ⟨⟨old, he⟩, ⟨o, ho, _⟩⟩ := st
      exact ⟨Heap.lt_size he, Heap.lt_size ho⟩
    have I1 : Inv X pins σ (upd H T (.tup [.int (i : Nat), .str ⟨#[c]⟩])) { s with heap := h'', toks := tk } :=
      I.turnedNew (ch := [e, it]) (fun b ob hb q => hk' b ob hb (hk b ob hb q)) hf hT new
    refine ⟨.ref T, _, I1, rfl, ⟨T, c, rfl, I.hok.fresh hT, rfl, hcx⟩, st', fun b hb => ?_⟩
    have hb' : b < s.heap.objs.size := by
      have e' : b = e ∨ b = it := by simpa using hb
      rcases e' with z | z
      · rw [z]; exact hle.1
      · rw [z]; exact hle.2
    rw [upd_ne (Nat.ne_of_lt (Nat.lt_of_lt_of_le hb' hT))]
    exact (hf b hb).1
  done := by
    intro X hP hw hK hc i pins s σ H E I hf st hg
    subst hP hw hK
    have D := Draws.text (prog := X.prog) (w := X.w) (A := X.A.in1) (show X.A.in1.handled = none from I.ok.hd hc) it x t
    have W := WalksT.enumFrom 0 D e hne (by simp [hne]) (by simp)
    have hi : i = x.cps.size := hg
    subst hi
    exact W.done s _ _ st fun h' tk hk => ⟨rfl, I.turnedL (ch := [e, it]) (t' := tk) hk hf⟩
  self := fun A i s Q E st h => let ⟨⟨_, he⟩, _⟩ := st; wpAny_pyIter_enum he h

def iEnumS (ta : TA) : TI := fun σ H R => ta σ H fun vs H1 => ∃ x, vs = [.str x] ∧ R (ItE x) H1
theorem pi_enumStr {X : Cx} {e : Expr} {ta : TA} {p pos tpos : Pos} {elts : List Expr} {kk : Nat} (hg : Gl X "enumerate") (hm : X.mg "enumerate" = none) (ha : PA X [e] ta) (hs : starEach [e] X.env = [(false, eval e X.env)] := by rfl) :
    PI X (.Tuple elts kk tpos) (.Call (.Name "enumerate" p) [e] [] pos) (iEnumS ta) := by
  refine ⟨fun pins s σ H R I h => ?_⟩
  refine Call_ (ld_blt I hg hm boot_enumerate (PyProof.Rows.callWith_type1 (thn (ha.run pos pins s σ H _ I h) fun us s1 ⟨vs, H1, I1, r1, q1⟩ => ?_) hs rfl))
  obtain ⟨x, ex, q⟩ := q1
  subst ex
  cases r1 with
  | cons r rr =>
    cases rr
    obtain ⟨t, rfl⟩ := r
    refine call_enumerate_str fun h' he hit hsz hk => wpAny_pyIter_enum he ?_
    have I2 : Inv X pins σ H1 { s1 with heap := h' } := I1.kept (t' := s1.toks) hk
    refine ⟨s1.heap.objs.size + 1, [s1.heap.objs.size + 1, s1.heap.objs.size], _, _, H1, rfl, I2, turn_enumS x t (s1.heap.objs.size + 1) s1.heap.objs.size (Nat.succ_ne_self _), ⟨⟨.none, by simpa using he⟩, hit⟩, fun b hb => ?_, q⟩
    have e' : b = s1.heap.objs.size + 1 ∨ b = s1.heap.objs.size := by simpa using hb
    have hle : s1.heap.objs.size ≤ b := by
      rcases e' with z | z
      · rw [z]; exact Nat.le_add_right _ _
      · rw [z]; exact Nat.le_refl _
    exact I1.fpOk hle (I1.hok.fresh hle)
theorem enumFrom_get : ∀ (ds : List D) (k i : Nat), (enumFrom k ds)[i]? = (ds[i]?).map fun d => .tup [.int ((k + i : Nat) : Int), d]
  | [], k, i => by simp [enumFrom]
  | d :: ds, k, 0 => by simp [enumFrom]
  | d :: ds, k, i + 1 => by
    unfold enumFrom
    rw [List.getElem?_cons_succ, List.getElem?_cons_succ, enumFrom_get ds (k + 1) i]
    have : k + 1 + i = k + (i + 1) := by omega
    rw [this]
theorem enumFrom_len : ∀ (ds : List D) (k : Nat), (enumFrom k ds).length = ds.length
  | [], _ => rfl
  | d :: ds, k => by unfold enumFrom; rw [List.length_cons, List.length_cons, enumFrom_len ds]
theorem walk_enumS {K : PySem.W.Frag} {Y : Lay} {H : Hp} {s : Cs} : Walk K (ItE (sv s)) (enumFrom 0 (signs s)) none Y H := by
  have hl : (enumFrom 0 (signs s)).length = (sv s).cps.size := by rw [enumFrom_len]; simp [signs]
  refine ⟨fun Y2 S2 H2 es e2 g2 h => ?_, fun i Y2 S2 H2 es e2 g2 h hi => ?_, fun i Y2 S2 H2 es x H3 e2 g2 h hi hy => ?_⟩
  · cases h
    exact hl
  · cases h
    show i < (sv s).cps.size
    omega
  · cases h
    obtain ⟨T, c, rfl, hT, rfl, hc⟩ := hy
    have hc' : s[i]? = some c := by simpa using hc
    refine ⟨.tup [.int (i : Nat), .str [c]], ?_, Ext.new hT, g2.new hT, fun a o q => by rw [upd_ne (ne_of_none q hT)]; exact q, Rep.newT hT (.cons (.int _) (.cons (.str [c]) .nil))⟩
    rw [enumFrom_get]
    unfold signs
    rw [List.getElem?_map, hc']
    simp
theorem pi_enumS {X : Cx} {U : Wh} {e : Expr} {F : FE} {p pos tpos : Pos} {elts : List Expr} {kk : Nat} (hc : X.calm = true) (ha : PeF X U e F) (hm : X.mg "enumerate" = none) (hg : Gl X "enumerate" := by rfl) (hs : starEach [e] X.env = [(false, eval e X.env)] := by rfl)
    (hp : starEach (e :: []) X.env = (false, eval e X.env) :: starEach [] X.env := by rfl) : PiF X U (.Tuple elts kk tpos) (.Call (.Name "enumerate" p) [e] [] pos) (iEnum F) := by
  obtain ⟨ta, p1, q1⟩ := ha
  refine ⟨_, pi_enumStr hg hm (pa_cons p1 pa_nil hp) hs, fun Y S H σ ρ R g rs h => q1 Y S H σ ρ _ g rs ((Pst.bind h).imp fun d S1 Y1 H1 e1 g1 h1 x rx => ?_)⟩
  cases rx with
  | str s =>
    obtain ⟨hz, h1⟩ := ite_ok h1
    exact ⟨_, rfl, h1.now g1 _ walk_enumS⟩
  | _ => exact h1.elim

/-! ### the end of a row -/
/-- what law(script) promises -/
def spLaw (K : PySem.W.Frag) : Sp := fun vs H Q _ => ∃ (a : Addr) (ns : List Int), vs = [.ref a] ∧ SqL K H a (ns.map V.int) ∧ ns.length ≤ 63 ∧ ∀ H', Q (.bl true) H'
theorem rep_ints {K : PySem.W.Frag} {Y : Lay} {H : Hp} : ∀ ns : List Int, RepL K Y H (ns.map D.int) (ns.map V.int)
  | [] => .nil
  | n :: ns => .cons (.int n) (rep_ints ns)
/-- nothing is changed yet -/
def Lay.none : Lay := ⟨[], fun _ => False, fun _ h => nomatch h⟩
theorem good_none {K : PySem.W.Frag} {H : Hp} : Good K Lay.none [] H := ⟨rfl, List.nodup_nil, fun _ _ _ h => by simp at h, fun _ h => h.elim⟩
theorem spLaw_of {K : PySem.W.Frag} {cl : Nat → Addr} {F : FF} (h : ∀ ns : List Int, ns.length ≤ 63 → ∃ S, F [.lst (ns.map D.int)] [] = .ok (.bl true) S) : ∀ vs H Q E, spLaw K vs H Q E → spF K cl 1 F vs H Q E := by
  rintro vs H Q E ⟨a, ns, rfl, hS, hl, q⟩
  obtain ⟨S, hF⟩ := h ns hl
  refine ⟨rfl, Lay.none, [], [.lst (ns.map D.int)], good_none, .cons ?_ .nil, ?_⟩
  · rcases hS with hS | hS
    · exact .lst hS (fun z => z) (rep_ints ns)
    · exact .lsk hS (rep_ints ns)
  · rw [hF]
    intro Y' H' e g v rv
    cases rv
    exact q H'
theorem walk {l : PySem.W.OpenLaw} {k : Nat} {x : PySem.Str} {q : Program} {loose : List PySem.Str} {XP : (PySem.Str → Option Value) → Heap → Prop} {YP : World → Heap → Prop} {d : DefRec} {K : Params → PySem.W.Frag} (hn : l.most = some 63) (hdf : d.params.defaults = []) (hr : Room k callerA)
    (hY : ∀ (w : World) (h : Heap), YP w h → (K w.params).In h)
    (F : ∀ (w : World) (mg : PySem.Str → Option Value) (fa : Addr) (h : Heap), (K w.params).In h → h.Ns mainGlobals mg → mg d.name = some (.ref fa) →
      ∃ fd : FuncData, (∀ (s : Shared) (u : Value), BindsTo s fd ⟨[u], []⟩ [(x, u)]) ∧ ∀ base : Heap, (K w.params).In base → base.Ns mainGlobals mg → FnOk l.prog w (K w.params) mg base (L2.CX l.prog w) k fa fd [x] (spLaw (K w.params))) :
    PySem.W.WalkO q loose XP YP l.row.toRowW d [] (fun f vs => PySem.call f vs) :=
  L2.walk_of (n := 63) (k := k) (x := x) (CX := fun w => L2.CX l.prog w) (sp := fun w => spLaw (K w.params)) hn (by decide) hdf hr hY F (fun _ _ a ns hl _ hS => ⟨a, ns, rfl, hS, hl, fun _ => rfl⟩) fun _ _ _ _ _ z => by
    obtain ⟨_, _, _, _, _, _, _, _, _, _, _, _, z⟩ := z
    exact z
end WF

set_option linter.all false
set_option maxRecDepth 100000
/-! # the denotations of the defs of k02 (printed by gen.py) -/
namespace WF
@[irreducible] def P_is_between : FF := runDef 3
    (sRet (dAnd (dUn (bIsi .int) (dVar 0)) (dAnd (dNot (dUn (bIsi .bool) (dVar 0))) (dChain gLe gLe (dVar 1) (dVar 0) (dVar 2)))))
@[irreducible] def P_are_words : FF := runDef 4
    (sRet (dAnd (dUn (bIsi .str) (dVar 0)) (dAnd (dChain gLe gLe (dVar 1) (dCall (f1 bLen) [(dVar 0)]) (dVar 2)) (dCall (f1 bAll) [(dComp (iVal (dVar 0)) (gName 3) [3] tYes (dBin gIn (dVar 3) (dC (.str [97, 98, 99, 100]))))]))))
@[irreducible] def P_is_simple : FF := runDef 4
    (sSeq (sPar [1, 2] [(dBin gIdx (dVar 0) (dC (.int 0))), (dSlice (dVar 0) (dPart (dC (.int 1))) dNoPart)])
    (sSeq (sIf (tVal (dBin gIn (dVar 1) (dTup [(dC (.str [119, 111, 114, 100])), (dC (.str [98, 101, 103, 105, 110])), (dC (.str [101, 110, 100]))])))
    (sRet (dAnd (dBin gEq (dCall (f1 bLen) [(dVar 2)]) (dC (.int 1))) (dCall P_are_words [(dBin gIdx (dVar 2) (dC (.int 0))), (dC (.int 1)), (dC (.int 1))])))
    sNil)
    (sSeq (sIf (tVal (dBin gEq (dVar 1) (dC (.str [114, 111, 119]))))
    (sRet (dAnd (dBin gEq (dCall (f1 bLen) [(dVar 2)]) (dC (.int 1))) (dCall P_are_words [(dBin gIdx (dVar 2) (dC (.int 0))), (dC (.int 2)), (dC (.int 3))])))
    sNil)
    (sSeq (sIf (tVal (dBin gIn (dVar 1) (dTup [(dC (.str [110, 101, 97, 114])), (dC (.str [98, 101, 102, 111, 114, 101]))])))
    (sRet (dAnd (dBin gEq (dCall (f1 bLen) [(dVar 2)]) (dC (.int 3))) (dAnd (dCall (f1 bAll) [(dComp (iVal (dSlice (dVar 2) dNoPart (dPart (dC (.int 2))))) (gName 3) [3] tYes (dCall P_are_words [(dVar 3), (dC (.int 1)), (dC (.int 1))]))]) (dCall P_is_between [(dBin gIdx (dVar 2) (dC (.int 2))), (dC (.int 0)), (dC (.int 2))]))))
    sNil)
    (sRet (dAnd (dBin gEq (dVar 1) (dC (.str [111, 102, 116, 101, 110]))) (dAnd (dBin gEq (dCall (f1 bLen) [(dVar 2)]) (dC (.int 2))) (dAnd (dCall P_are_words [(dBin gIdx (dVar 2) (dC (.int 0))), (dC (.int 1)), (dC (.int 1))]) (dCall P_is_between [(dBin gIdx (dVar 2) (dC (.int 1))), (dC (.int 2)), (dC (.int 3))])))))))))
def P_is_at_most : Nat → FF
  | 0 => fUn
  | n + 1 => runDef 3
    (sSeq (sIf (tOr (tVal (dBin gLt (dVar 1) (dC (.int 1)))) (tOr (tNot (tVal (dUn (bIsi .tuple) (dVar 0)))) (tOr (tVal (dBin gLt (dCall (f1 bLen) [(dVar 0)]) (dC (.int 2)))) (tNot (tVal (dUn (bIsi .str) (dBin gIdx (dVar 0) (dC (.int 0)))))))))
    (sRet (dC (.bl false)))
    sNil)
    (sSeq (sIf (tVal (dBin gEq (dBin gIdx (dVar 0) (dC (.int 0))) (dC (.str [110, 111, 116]))))
    (sRet (dAnd (dBin gEq (dCall (f1 bLen) [(dVar 0)]) (dC (.int 2))) (dCall (P_is_at_most n) [(dBin gIdx (dVar 0) (dC (.int 1))), (dBin gSub (dVar 1) (dC (.int 1)))])))
    sNil)
    (sSeq (sIf (tVal (dBin gIn (dBin gIdx (dVar 0) (dC (.int 0))) (dTup [(dC (.str [97, 110, 100])), (dC (.str [111, 114]))])))
    (sRet (dAnd (dBin gEq (dCall (f1 bLen) [(dVar 0)]) (dC (.int 3))) (dCall (f1 bAll) [(dComp (iVal (dSlice (dVar 0) (dPart (dC (.int 1))) dNoPart)) (gName 2) [2] tYes (dCall (P_is_at_most n) [(dVar 2), (dBin gSub (dVar 1) (dC (.int 1)))]))])))
    sNil)
    (sRet (dCall P_is_simple [(dVar 0)])))))
@[irreducible] def P_is_question : FF := runDef 1
    (sRet (dCall (P_is_at_most fuel) [(dVar 0), (dC (.int 3))]))
@[irreducible] def P_check_question : FF := runDef 1
    (sIf (tNot (tVal (dCall P_is_question [(dVar 0)])))
    (sRaise 0)
    sNil)
@[irreducible] def P_check_text : FF := runDef 1
    (sIf (tNot (tVal (dCall P_are_words [(dVar 0), (dC (.int 0)), (dC (.int 60))])))
    (sRaise 1)
    sNil)
def P_depth_of : Nat → FF
  | 0 => fUn
  | n + 1 => runDef 1
    (sSeq (sIf (tVal (dBin gEq (dBin gIdx (dVar 0) (dC (.int 0))) (dC (.str [110, 111, 116]))))
    (sRet (dBin gAdd (dC (.int 1)) (dCall (P_depth_of n) [(dBin gIdx (dVar 0) (dC (.int 1)))])))
    sNil)
    (sSeq (sIf (tVal (dBin gIn (dBin gIdx (dVar 0) (dC (.int 0))) (dTup [(dC (.str [97, 110, 100])), (dC (.str [111, 114]))])))
    (sRet (dBin gAdd (dC (.int 1)) (dCall (f2 bMax2) [(dCall (P_depth_of n) [(dBin gIdx (dVar 0) (dC (.int 1)))]), (dCall (P_depth_of n) [(dBin gIdx (dVar 0) (dC (.int 2)))])])))
    sNil)
    (sRet (dC (.int 1)))))
@[irreducible] def P_depth : FF := runDef 1
    (sSeq (sExpr (dCall P_check_question [(dVar 0)]))
    (sRet (dCall (P_depth_of fuel) [(dVar 0)])))
@[irreducible] def P_are_close : FF := runDef 6
    (sRet (dCall (f1 bAny) [(dComp (iEnum (dVar 0)) (gTup [(gName 4), (gName 5)]) [4, 5] tYes (dAnd (dBin gEq (dVar 5) (dVar 1)) (dBin gIn (dVar 2) (dSlice (dVar 0) (dPart (dBin gAdd (dVar 4) (dC (.int 1)))) (dPart (dBin gAdd (dBin gAdd (dVar 4) (dC (.int 2))) (dVar 3)))))))]))
def P_does_find : Nat → FF
  | 0 => fUn
  | n + 1 => runDef 4
    (sSeq (sAsg (dBin gIdx (dVar 0) (dC (.int 0))) (gName 2))
    (sSeq (sIf (tVal (dBin gEq (dVar 2) (dC (.str [110, 111, 116]))))
    (sRet (dNot (dCall (P_does_find n) [(dBin gIdx (dVar 0) (dC (.int 1))), (dVar 1)])))
    sNil)
    (sSeq (sIf (tVal (dBin gEq (dVar 2) (dC (.str [97, 110, 100]))))
    (sRet (dAnd (dCall (P_does_find n) [(dBin gIdx (dVar 0) (dC (.int 1))), (dVar 1)]) (dCall (P_does_find n) [(dBin gIdx (dVar 0) (dC (.int 2))), (dVar 1)])))
    sNil)
    (sSeq (sIf (tVal (dBin gEq (dVar 2) (dC (.str [111, 114]))))
    (sRet (dOr (dCall (P_does_find n) [(dBin gIdx (dVar 0) (dC (.int 1))), (dVar 1)]) (dCall (P_does_find n) [(dBin gIdx (dVar 0) (dC (.int 2))), (dVar 1)])))
    sNil)
    (sSeq (sAsg (dBin gIdx (dVar 0) (dC (.int 1))) (gName 3))
    (sSeq (sIf (tVal (dBin gIn (dVar 2) (dTup [(dC (.str [119, 111, 114, 100])), (dC (.str [114, 111, 119]))])))
    (sRet (dBin gIn (dVar 3) (dVar 1)))
    sNil)
    (sSeq (sIf (tVal (dBin gEq (dVar 2) (dC (.str [98, 101, 103, 105, 110]))))
    (sRet (dBin gEq (dSlice (dVar 1) dNoPart (dPart (dC (.int 1)))) (dVar 3)))
    sNil)
    (sSeq (sIf (tVal (dBin gEq (dVar 2) (dC (.str [101, 110, 100]))))
    (sRet (dBin gEq (dSlice (dVar 1) (dPart (dUn gNeg (dC (.int 1)))) dNoPart) (dVar 3)))
    sNil)
    (sSeq (sIf (tVal (dBin gEq (dVar 2) (dC (.str [111, 102, 116, 101, 110]))))
    (sRet (dBin gGe (dStrM bCount (dVar 1) (dVar 3)) (dBin gIdx (dVar 0) (dC (.int 2)))))
    sNil)
    (sSeq (sIf (tAnd (tVal (dBin gEq (dVar 2) (dC (.str [110, 101, 97, 114])))) (tVal (dCall P_are_close [(dVar 1), (dBin gIdx (dVar 0) (dC (.int 2))), (dVar 3), (dBin gIdx (dVar 0) (dC (.int 3)))])))
    (sRet (dC (.bl true)))
    sNil)
    (sRet (dCall P_are_close [(dVar 1), (dVar 3), (dBin gIdx (dVar 0) (dC (.int 2))), (dBin gIdx (dVar 0) (dC (.int 3)))]))))))))))))
@[irreducible] def P_finds : FF := runDef 2
    (sSeq (sExpr (dCall P_check_question [(dVar 0)]))
    (sSeq (sExpr (dCall P_check_text [(dVar 1)]))
    (sRet (dCall (P_does_find fuel) [(dVar 0), (dVar 1)]))))
@[irreducible] def P_found_among : FF := runDef 3
    (sSeq (sExpr (dCall P_check_question [(dVar 0)]))
    (sSeq (sIf (tOr (tNot (tVal (dUn (bIsi .tuple) (dVar 1)))) (tOr (tVal (dBin gGt (dCall (f1 bLen) [(dVar 1)]) (dC (.int 20)))) (tNot (tVal (dCall (f1 bAll) [(dComp (iVal (dVar 1)) (gName 2) [2] tYes (dCall P_are_words [(dVar 2), (dC (.int 0)), (dC (.int 60))]))])))))
    (sRaise 2)
    sNil)
    (sRet (dCall (f1 bTuple) [(dComp (iVal (dVar 1)) (gName 2) [2] (tVal (dCall (P_does_find fuel) [(dVar 0), (dVar 2)])) (dVar 2))]))))
@[irreducible] def L_town : FF := runDef 1
    (sRet (dCatNew (dLst [(dC (.int 0))]) (dCall (f1 bList) [(dVar 0)])))
@[irreducible] def L_draw : FF := runDef 6
    (sSeq (sAsg (dBin gAdd (dBin gIdx (dVar 1) (dC (.int 0))) (dC (.int 1))) (gSubL (dVar 1) (dC (.int 0))))
    (sSeq (sIf (tVal (dBin gEq (dVar 0) (dLst [])))
    (sRet (dBin gMod (dBin gFdiv (dBin gMul (dBin gMul (dBin gIdx (dVar 1) (dC (.int 0))) (dBin gIdx (dVar 1) (dC (.int 0)))) (dC (.int 7))) (dC (.int 3))) (dVar 2)))
    sNil)
    (sSeq (sAsg (dBin gMod (dBin gIdx (dVar 1) (dC (.int 0))) (dCall (f1 bLen) [(dVar 0)])) (gName 3))
    (sSeq (sAsg (dBin gIdx (dVar 1) (dBin gAdd (dC (.int 1)) (dVar 3))) (gName 4))
    (sSeq (sIf (tAnd (tVal (dBin gGe (dBin gIdx (dVar 0) (dVar 3)) (dBin gPow (dC (.int 10)) (dC (.int 18))))) (tVal (dBin gGt (dVar 4) (dC (.int 0)))))
    (sSeq (sAsg (dBin gFdiv (dVar 4) (dVar 2)) (gSubL (dVar 1) (dBin gAdd (dC (.int 1)) (dVar 3))))
    (sRet (dBin gMod (dVar 4) (dVar 2))))
    sNil)
    (sSeq (sAsg (dBin gMod (dBin gAdd (dBin gIdx (dVar 0) (dVar 3)) (dBin gMul (dC (.int 104729)) (dBin gIdx (dVar 1) (dC (.int 0))))) (dC (.int 4294967291))) (gName 5))
    (sSeq (sAsg (dBin gMod (dBin gPow (dVar 5) (dC (.int 5))) (dC (.int 4294967279))) (gName 5))
    (sRet (dBin gMod (dBin gFdiv (dBin gMod (dBin gAdd (dBin gMul (dBin gFdiv (dVar 5) (dC (.int 64))) (dC (.int 69621))) (dVar 5)) (dC (.int 4294967231))) (dC (.int 8))) (dVar 2))))))))))
@[irreducible] def L_pick : FF := runDef 3
    (sRet (dBin gIdx (dVar 2) (dCall L_draw [(dVar 0), (dVar 1), (dCall (f1 bLen) [(dVar 2)])])))
@[irreducible] def L_word : FF := runDef 2
    (sRet (dBin gIdx (dC (.str [97, 98, 99, 100])) (dCall L_draw [(dVar 0), (dVar 1), (dCall L_pick [(dVar 0), (dVar 1), (dLst [(dC (.int 2)), (dC (.int 3)), (dC (.int 4))])])])))
@[irreducible] def L_simple : FF := runDef 5
    (sSeq (sPar [2, 3, 4] [(dCall L_draw [(dVar 0), (dVar 1), (dC (.int 7))]), (dCall L_word [(dVar 0), (dVar 1)]), (dCall L_word [(dVar 0), (dVar 1)])])
    (sSeq (sIf (tVal (dBin gLt (dVar 2) (dC (.int 2))))
    (sRet (dTup [(dC (.str [114, 111, 119])), (dBin gAdd (dBin gAdd (dVar 3) (dVar 4)) (dCall L_pick [(dVar 0), (dVar 1), (dLst [(dC (.str [])), (dCall L_word [(dVar 0), (dVar 1)])])]))]))
    sNil)
    (sSeq (sIf (tVal (dBin gLt (dVar 2) (dC (.int 4))))
    (sRet (dTup [(dBin gIdx (dTup [(dC (.str [110, 101, 97, 114])), (dC (.str [98, 101, 102, 111, 114, 101]))]) (dBin gSub (dVar 2) (dC (.int 2)))), (dVar 3), (dVar 4), (dCall L_draw [(dVar 0), (dVar 1), (dC (.int 3))])]))
    sNil)
    (sSeq (sIf (tVal (dBin gEq (dVar 2) (dC (.int 4))))
    (sRet (dTup [(dC (.str [111, 102, 116, 101, 110])), (dVar 3), (dBin gAdd (dC (.int 2)) (dCall L_draw [(dVar 0), (dVar 1), (dC (.int 2))]))]))
    sNil)
    (sRet (dTup [(dBin gIdx (dTup [(dC (.str [98, 101, 103, 105, 110])), (dC (.str [101, 110, 100])), (dC (.str [119, 111, 114, 100]))]) (dCall L_draw [(dVar 0), (dVar 1), (dC (.int 3))])), (dVar 3)]))))))
def L_question : Nat → FF
  | 0 => fUn
  | n + 1 => runDef 5
    (sSeq (sAsg (dCall L_draw [(dVar 0), (dVar 1), (dC (.int 5))]) (gName 3))
    (sSeq (sIf (tOr (tVal (dBin gEq (dVar 2) (dC (.int 1)))) (tVal (dBin gEq (dVar 3) (dC (.int 0)))))
    (sRet (dCall L_simple [(dVar 0), (dVar 1)]))
    sNil)
    (sSeq (sIf (tVal (dBin gEq (dVar 3) (dC (.int 1))))
    (sRet (dTup [(dC (.str [110, 111, 116])), (dCall (L_question n) [(dVar 0), (dVar 1), (dBin gSub (dVar 2) (dC (.int 1)))])]))
    sNil)
    (sSeq (sAsg (dBin gIdx (dTup [(dC (.str [97, 110, 100])), (dC (.str [111, 114]))]) (dCall L_draw [(dVar 0), (dVar 1), (dC (.int 2))])) (gName 4))
    (sRet (dTup [(dVar 4), (dCall (L_question n) [(dVar 0), (dVar 1), (dBin gSub (dVar 2) (dC (.int 1)))]), (dCall (L_question n) [(dVar 0), (dVar 1), (dBin gSub (dVar 2) (dC (.int 1)))])]))))))
@[irreducible] def L_text : FF := runDef 4
    (sRet (dStrM bJoin (dC (.str [])) (dComp (iRange1 (dCall L_draw [(dVar 0), (dVar 1), (dBin gAdd (dVar 2) (dC (.int 1)))])) (gName 3) [3] tYes (dCall L_word [(dVar 0), (dVar 1)]))))
def L_finds : Nat → FF
  | 0 => fUn
  | n + 1 => runDef 11
    (sSeq (sAsg (dTup [(dBin gIdx (dVar 0) (dC (.int 0))), (dSlice (dVar 0) (dPart (dC (.int 1))) dNoPart)]) (gTup [(gName 5), (gName 6)]))
    (sSeq (sIf (tVal (dBin gIn (dVar 5) (dTup [(dC (.str [110, 111, 116])), (dC (.str [97, 110, 100])), (dC (.str [111, 114]))])))
    (sSeq (sAsg (dComp (iVal (dVar 6)) (gName 9) [9] tYes (dCall (L_finds n) [(dVar 9), (dVar 1)])) (gName 7))
    (sRet (dPick [[110, 111, 116], [97, 110, 100], [111, 114]] [(dNot (dBin gIdx (dVar 7) (dC (.int 0)))), (dBin gNotIn (dC (.bl false)) (dVar 7)), (dBin gIn (dC (.bl true)) (dVar 7))] (dVar 5))))
    sNil)
    (sSeq (sAsg (dComp (iRange1 (dCall (f1 bLen) [(dVar 1)])) (gName 4) [4] (tVal (dBin gEq (dBin gIdx (dVar 1) (dVar 4)) (dBin gIdx (dVar 6) (dC (.int 0))))) (dVar 4)) (gName 2))
    (sSeq (sIf (tVal (dBin gEq (dVar 5) (dC (.str [111, 102, 116, 101, 110]))))
    (sRet (dBin gGe (dCall (f1 bLen) [(dVar 2)]) (dBin gIdx (dVar 6) (dC (.int 1)))))
    sNil)
    (sSeq (sIf (tVal (dBin gEq (dVar 5) (dC (.str [114, 111, 119]))))
    (sRet (dBin gNe (dComp (iRange1 (dCall (f1 bLen) [(dVar 1)])) (gName 10) [10] (tVal (dBin gEq (dSlice (dVar 1) (dPart (dVar 10)) (dPart (dBin gAdd (dVar 10) (dCall (f1 bLen) [(dBin gIdx (dVar 6) (dC (.int 0)))])))) (dBin gIdx (dVar 6) (dC (.int 0))))) (dVar 10)) (dLst [])))
    sNil)
    (sSeq (sIf (tOr (tVal (dBin gEq (dVar 5) (dC (.str [98, 101, 103, 105, 110])))) (tVal (dBin gEq (dVar 5) (dC (.str [101, 110, 100])))))
    (sRet (dAnd (dBin gGt (dCall (f1 bLen) [(dVar 1)]) (dC (.int 0))) (dBin gEq (dBin gIdx (dVar 1) (dIf (tVal (dBin gEq (dVar 5) (dC (.str [98, 101, 103, 105, 110])))) (dC (.int 0)) (dBin gSub (dCall (f1 bLen) [(dVar 1)]) (dC (.int 1))))) (dBin gIdx (dVar 6) (dC (.int 0))))))
    sNil)
    (sSeq (sIf (tVal (dBin gEq (dVar 5) (dC (.str [119, 111, 114, 100]))))
    (sRet (dBin gNe (dVar 2) (dLst [])))
    sNil)
    (sSeq (sAsg (dComp (iRange1 (dCall (f1 bLen) [(dVar 1)])) (gName 4) [4] (tVal (dBin gEq (dBin gIdx (dVar 1) (dVar 4)) (dBin gIdx (dVar 6) (dC (.int 1))))) (dVar 4)) (gName 3))
    (sSeq (sFor (iVal (dVar 2)) (gName 4)
    (sSeq (sAsg (dBin gAdd (dBin gIdx (dVar 6) (dC (.int 2))) (dC (.int 1))) (gName 8))
    (sIf (tVal (dBin gNe (dComp (iVal (dVar 3)) (gName 10) [10] (tOr (tVal (dChain gLt gLe (dC (.int 0)) (dBin gSub (dVar 10) (dVar 4)) (dVar 8))) (tAnd (tVal (dBin gEq (dVar 5) (dC (.str [110, 101, 97, 114])))) (tVal (dChain gLt gLe (dC (.int 0)) (dBin gSub (dVar 4) (dVar 10)) (dVar 8))))) (dVar 10)) (dLst [])))
    (sRet (dC (.bl true)))
    sNil)))
    (sRet (dC (.bl false))))))))))))
def L_depth : Nat → FF
  | 0 => fUn
  | n + 1 => runDef 2
    (sSeq (sIf (tVal (dBin gNotIn (dBin gIdx (dVar 0) (dC (.int 0))) (dTup [(dC (.str [110, 111, 116])), (dC (.str [97, 110, 100])), (dC (.str [111, 114]))])))
    (sRet (dC (.int 1)))
    sNil)
    (sRet (dBin gAdd (dC (.int 1)) (dCall (f1 bMax) [(dComp (iVal (dSlice (dVar 0) (dPart (dC (.int 1))) dNoPart)) (gName 1) [1] tYes (dCall (L_depth n) [(dVar 1)]))]))))
@[irreducible] def L_law : FF := runDef 11
    (sSeq (sAsg (dCall L_town [(dVar 0)]) (gName 1))
    (sSeq (sAsg (dCall (L_question fuel) [(dVar 0), (dVar 1), (dC (.int 3))]) (gName 2))
    (sSeq (sAsg (dCall (f1 bTuple) [(dComp (iRange1 (dC (.int 12))) (gName 10) [10] tYes (dCall L_text [(dVar 0), (dVar 1), (dC (.int 9))]))]) (gName 3))
    (sSeq (sFor (iVal (dVar 3)) (gName 4)
    (sIf (tVal (dBin gNe (dCall P_finds [(dVar 2), (dVar 4)]) (dCall (L_finds fuel) [(dVar 2), (dVar 4)])))
    (sRet (dC (.bl false)))
    sNil))
    (sSeq (sIf (tVal (dBin gNe (dCall P_found_among [(dVar 2), (dVar 3)]) (dCall (f1 bTuple) [(dComp (iVal (dVar 3)) (gName 4) [4] (tVal (dCall (L_finds fuel) [(dVar 2), (dVar 4)])) (dVar 4))])))
    (sRet (dC (.bl false)))
    sNil)
    (sSeq (sIf (tOr (tVal (dBin gNe (dCall P_depth [(dVar 2)]) (dCall (L_depth fuel) [(dVar 2)]))) (tOr (tVal (dBin gGt (dCall P_depth [(dVar 2)]) (dC (.int 3)))) (tVal (dBin gNe (dCall P_found_among [(dVar 2), (dTup [])]) (dTup [])))))
    (sRet (dC (.bl false)))
    sNil)
    (sSeq (sPar [5, 6] [(dCall (L_question fuel) [(dVar 0), (dVar 1), (dC (.int 2))]), (dCall (L_question fuel) [(dVar 0), (dVar 1), (dC (.int 2))])])
    (sSeq (sFor (iVal (dVar 3)) (gName 4)
    (sSeq (sAsg (dLst [(dCall P_finds [(dVar 5), (dVar 4)]), (dCall P_finds [(dVar 6), (dVar 4)])]) (gName 7))
    (sSeq (sIf (tOr (tVal (dBin gNe (dCall P_finds [(dTup [(dC (.str [97, 110, 100])), (dVar 5), (dVar 6)]), (dVar 4)]) (dBin gEq (dVar 7) (dLst [(dC (.bl true)), (dC (.bl true))])))) (tVal (dBin gEq (dCall P_finds [(dTup [(dC (.str [110, 111, 116])), (dVar 5)]), (dVar 4)]) (dBin gIdx (dVar 7) (dC (.int 0))))))
    (sRet (dC (.bl false)))
    sNil)
    (sIf (tVal (dBin gNe (dCall P_finds [(dTup [(dC (.str [111, 114])), (dVar 5), (dVar 6)]), (dVar 4)]) (dBin gIn (dC (.bl true)) (dVar 7))))
    (sRet (dC (.bl false)))
    sNil))))
    (sSeq (sPar [8, 9] [(dCall L_word [(dVar 0), (dVar 1)]), (dCall L_word [(dVar 0), (dVar 1)])])
    (sSeq (sFor (iVal (dVar 3)) (gName 4)
    (sSeq (sIf (tVal (dBin gNe (dCall P_finds [(dTup [(dC (.str [110, 101, 97, 114])), (dVar 8), (dVar 9), (dC (.int 1))]), (dVar 4)]) (dCall P_finds [(dTup [(dC (.str [111, 114])), (dTup [(dC (.str [98, 101, 102, 111, 114, 101])), (dVar 8), (dVar 9), (dC (.int 1))]), (dTup [(dC (.str [98, 101, 102, 111, 114, 101])), (dVar 9), (dVar 8), (dC (.int 1))])]), (dVar 4)])))
    (sRet (dC (.bl false)))
    sNil)
    (sIf (tVal (dBin gNe (dCall P_finds [(dTup [(dC (.str [114, 111, 119])), (dBin gAdd (dVar 8) (dVar 9))]), (dVar 4)]) (dCall P_finds [(dTup [(dC (.str [98, 101, 102, 111, 114, 101])), (dVar 8), (dVar 9), (dC (.int 0))]), (dVar 4)])))
    (sRet (dC (.bl false)))
    sNil)))
    (sRet (dC (.bl true)))))))))))))
end WF

set_option Elab.async false
set_option linter.all false
set_option maxRecDepth 100000
set_option maxHeartbeats 4000000
/-! # the walk of k02 (printed by gen.py) -/
namespace WF
open PySem L2 PyProof.Rows
def top (i : Nat) : Stmt := PySem.Challenge.pw_wordfinds_k02_whole_finds.main.body.getD i (.Pass ⟨0, 0, 0, 0⟩)
/-- what the top has written -/
structure Txt (K : PySem.W.Frag) (mg : PySem.Str → Option Value) (cl : Nat → Addr) : Prop where
  n_all : mg "all" = none
  n_any : mg "any" = none
  n_bool : mg "bool" = none
  n_enumerate : mg "enumerate" = none
  n_int : mg "int" = none
  n_isinstance : mg "isinstance" = none
  n_len : mg "len" = none
  n_list : mg "list" = none
  n_max : mg "max" = none
  n_range : mg "range" = none
  n_str : mg "str" = none
  n_tuple : mg "tuple" = none
  g_WORDS : ∃ t, mg "WORDS" = some (.str "abcd" t)
  g_DEEP : ∃ t, mg "DEEP" = some (.int 3 t)
  x_InvalidQuestion : ExcC K mg "InvalidQuestion" (cl 0)
  x_InvalidText : ExcC K mg "InvalidText" (cl 1)
  x_InvalidTexts : ExcC K mg "InvalidTexts" (cl 2)
  f_is_between : ∃ f fd, Fun K "is_between" "is_between" (top 8) f fd ∧ mg "is_between" = some (.ref f) ∧ Binds K fd ["value", "low", "high"] []
  f_are_words : ∃ f fd, Fun K "are_words" "are_words" (top 9) f fd ∧ mg "are_words" = some (.ref f) ∧ Binds K fd ["value", "low", "high"] []
  f_is_simple : ∃ f fd, Fun K "is_simple" "is_simple" (top 10) f fd ∧ mg "is_simple" = some (.ref f) ∧ Binds K fd ["value"] []
  f_is_at_most : ∃ f fd, Fun K "is_at_most" "is_at_most" (top 11) f fd ∧ mg "is_at_most" = some (.ref f) ∧ Binds K fd ["value", "deep"] []
  f_is_question : ∃ f fd, Fun K "is_question" "is_question" (top 12) f fd ∧ mg "is_question" = some (.ref f) ∧ Binds K fd ["value"] []
  f_check_question : ∃ f fd, Fun K "check_question" "check_question" (top 13) f fd ∧ mg "check_question" = some (.ref f) ∧ Binds K fd ["value"] []
  f_check_text : ∃ f fd, Fun K "check_text" "check_text" (top 14) f fd ∧ mg "check_text" = some (.ref f) ∧ Binds K fd ["value"] []
  f_depth_of : ∃ f fd, Fun K "depth_of" "depth_of" (top 15) f fd ∧ mg "depth_of" = some (.ref f) ∧ Binds K fd ["question"] []
  f_depth : ∃ f fd, Fun K "depth" "depth" (top 16) f fd ∧ mg "depth" = some (.ref f) ∧ Binds K fd ["question"] []
  f_are_close : ∃ f fd, Fun K "are_close" "are_close" (top 17) f fd ∧ mg "are_close" = some (.ref f) ∧ Binds K fd ["text", "v", "w", "gap"] []
  f_does_find : ∃ f fd, Fun K "does_find" "does_find" (top 18) f fd ∧ mg "does_find" = some (.ref f) ∧ Binds K fd ["question", "text"] []
  f_finds : ∃ f fd, Fun K "finds" "finds" (top 19) f fd ∧ mg "finds" = some (.ref f) ∧ Binds K fd ["question", "text"] []
  f_found_among : ∃ f fd, Fun K "found_among" "found_among" (top 20) f fd ∧ mg "found_among" = some (.ref f) ∧ Binds K fd ["question", "texts"] []
  f__law_town : ∃ f fd, Fun K "_law_town" "_law_town" (top 22) f fd ∧ mg "_law_town" = some (.ref f) ∧ Binds K fd ["_law_script"] []
  f__law_draw : ∃ f fd, Fun K "_law_draw" "_law_draw" (top 23) f fd ∧ mg "_law_draw" = some (.ref f) ∧ Binds K fd ["_law_script", "_law_town_here", "_law_limit"] []
  f__law_pick : ∃ f fd, Fun K "_law_pick" "_law_pick" (top 24) f fd ∧ mg "_law_pick" = some (.ref f) ∧ Binds K fd ["_law_script", "_law_town_here", "_law_choices"] []
  f__law_word : ∃ f fd, Fun K "_law_word" "_law_word" (top 25) f fd ∧ mg "_law_word" = some (.ref f) ∧ Binds K fd ["_law_script", "_law_town_here"] []
  f__law_simple : ∃ f fd, Fun K "_law_simple" "_law_simple" (top 26) f fd ∧ mg "_law_simple" = some (.ref f) ∧ Binds K fd ["_law_script", "_law_town_here"] []
  f__law_question : ∃ f fd, Fun K "_law_question" "_law_question" (top 27) f fd ∧ mg "_law_question" = some (.ref f) ∧ Binds K fd ["_law_script", "_law_town_here", "_law_deep"] []
  f__law_text : ∃ f fd, Fun K "_law_text" "_law_text" (top 28) f fd ∧ mg "_law_text" = some (.ref f) ∧ Binds K fd ["_law_script", "_law_town_here", "_law_most"] []
  f__law_finds : ∃ f fd, Fun K "_law_finds" "_law_finds" (top 29) f fd ∧ mg "_law_finds" = some (.ref f) ∧ Binds K fd ["_law_question_here", "_law_text_here"] []
  f__law_depth : ∃ f fd, Fun K "_law_depth" "_law_depth" (top 30) f fd ∧ mg "_law_depth" = some (.ref f) ∧ Binds K fd ["_law_question_here"] []
  f_law : ∃ f fd, Fun K "law" "law" (top 31) f fd ∧ mg "law" = some (.ref f) ∧ Binds K fd ["_law_script"] []
section
variable {P : Program} {w : World} {K : PySem.W.Frag} {mg : PySem.Str → Option Value} {base : Heap} {cl : Nat → Addr}
abbrev s_is_between : Stmt := top 8
abbrev N_is_between : List PySem.Str := ["value", "low", "high"]
theorem sc_is_between : FnScope N_is_between ["value", "low", "high"] (defScope s_is_between) := ⟨rfl, rfl, rfl, by decide +kernel, rfl, by decide +kernel, by decide +kernel⟩
theorem ok_is_between (T : Txt K mg cl) : FnD P w K mg base cl "is_between" 3 1 P_is_between := by
    obtain ⟨f, fd, Fn, hm, hb⟩ := T.f_is_between
    unfold P_is_between
    exact fnd_mk (N := N_is_between) (ps := ["value", "low", "high"]) (k := 0) Fn sc_is_between hb hm fun cdv A outer s H E c0 =>
    (pssf_one (psf_ret (pf_and (pf_isi .int (pf_var 0) T.n_isinstance T.n_int (by decide +kernel)) (pf_and (pf_not (pf_isi .bool (pf_var 0) T.n_isinstance T.n_bool (by decide +kernel))) (pf_one (pf_chain o_le o_le (pf_var 1) (pf_var 0) (pf_var 2)))))))
abbrev s_are_words : Stmt := top 9
abbrev N_are_words : List PySem.Str := ["value", "low", "high", "word"]
theorem sc_are_words : FnScope N_are_words ["value", "low", "high"] (defScope s_are_words) := ⟨rfl, rfl, rfl, by decide +kernel, rfl, by decide +kernel, by decide +kernel⟩
theorem ok_are_words (T : Txt K mg cl) : FnD P w K mg base cl "are_words" 3 1 P_are_words := by
    obtain ⟨f, fd, Fn, hm, hb⟩ := T.f_are_words
    unfold P_are_words
    exact fnd_mk (N := N_are_words) (ps := ["value", "low", "high"]) (k := 0) Fn sc_are_words hb hm fun cdv A outer s H E c0 =>
    (pssf_one (psf_ret (pf_and (pf_isi .str (pf_var 0) T.n_isinstance T.n_str (by decide +kernel)) (pf_and (pf_chain o_le o_le (pf_var 1) (pf_callB c_len T.n_len (by decide +kernel) (paf_cons (pf_var 0) paf_nil)) (pf_var 2)) (pf_one (pf_callB (c_all c0.calm) T.n_all (by decide +kernel) (paf_cons (pf_comp c0.calm c0.nd (pi_val (pf_var 0)) (blkOk_by (own := [("word", 3)]) (N := N_are_words) (sc := defScope s_are_words) (by decide +kernel)) (fun _ _ _ _ _ => (pg_nm 3 c0.blk.nd)) (fun _ _ _ _ _ => pts_no) (fun _ _ _ _ _ => (pf_cmp (o_in c0.blk.hu) (pf_var 3) (pf_globStr T.g_WORDS.choose_spec (by decide +kernel))))) paf_nil)))))))
abbrev s_is_simple : Stmt := top 10
abbrev N_is_simple : List PySem.Str := ["value", "name", "parts", "part"]
theorem sc_is_simple : FnScope N_is_simple ["value"] (defScope s_is_simple) := ⟨rfl, rfl, rfl, by decide +kernel, rfl, by decide +kernel, by decide +kernel⟩
theorem ok_is_simple (T : Txt K mg cl) : FnD P w K mg base cl "is_simple" 1 2 P_is_simple := by
    obtain ⟨f, fd, Fn, hm, hb⟩ := T.f_is_simple
    unfold P_is_simple
    exact fnd_mk (N := N_is_simple) (ps := ["value"]) (k := 1) Fn sc_is_simple hb hm fun cdv A outer s H E c0 =>
    (pssf_cons (psf_par2 1 2 c0.calm c0.nd (paf_cons (pf_ix (pf_var 0) pf_int) (paf_cons (pf_slice (pf_var 0) (pof_some pf_int) pof_none) paf_nil)))
    (pssf_cons (psf_if (pt_cmp (o_in c0.hu) (pf_var 1) (pf_tup (paf_cons (pf_str (by decide +kernel)) (paf_cons (pf_str (by decide +kernel)) (paf_cons (pf_str (by decide +kernel)) paf_nil)))))
    (pssf_one (psf_ret (pf_and (pf_cmp (o_eq c0.hu) (pf_callB c_len T.n_len (by decide +kernel) (paf_cons (pf_var 2) paf_nil)) pf_int) (pf_one (pf_call c0 (ok_are_words T) (by omega) (paf_cons (pf_ix (pf_var 2) pf_int) (paf_cons pf_int (paf_cons pf_int paf_nil))))))))
    pssf_nil)
    (pssf_cons (psf_if (pt_cmp (o_eq c0.hu) (pf_var 1) (pf_str (by decide +kernel)))
    (pssf_one (psf_ret (pf_and (pf_cmp (o_eq c0.hu) (pf_callB c_len T.n_len (by decide +kernel) (paf_cons (pf_var 2) paf_nil)) pf_int) (pf_one (pf_call c0 (ok_are_words T) (by omega) (paf_cons (pf_ix (pf_var 2) pf_int) (paf_cons pf_int (paf_cons pf_int paf_nil))))))))
    pssf_nil)
    (pssf_cons (psf_if (pt_cmp (o_in c0.hu) (pf_var 1) (pf_tup (paf_cons (pf_str (by decide +kernel)) (paf_cons (pf_str (by decide +kernel)) paf_nil))))
    (pssf_one (psf_ret (pf_and (pf_cmp (o_eq c0.hu) (pf_callB c_len T.n_len (by decide +kernel) (paf_cons (pf_var 2) paf_nil)) pf_int) (pf_and (pf_callB (c_all c0.calm) T.n_all (by decide +kernel) (paf_cons (pf_comp c0.calm c0.nd (pi_val (pf_slice (pf_var 2) pof_none (pof_some pf_int))) (blkOk_by (own := [("part", 3)]) (N := N_is_simple) (sc := defScope s_is_simple) (by decide +kernel)) (fun _ _ _ _ _ => (pg_nm 3 c0.blk.nd)) (fun _ _ _ _ _ => pts_no) (fun _ _ _ _ _ => (pf_call c0.blk (ok_are_words T) (by omega) (paf_cons (pf_var 3) (paf_cons pf_int (paf_cons pf_int paf_nil)))))) paf_nil)) (pf_one (pf_call c0 (ok_is_between T) (by omega) (paf_cons (pf_ix (pf_var 2) pf_int) (paf_cons pf_int (paf_cons pf_int paf_nil)))))))))
    pssf_nil)
    (pssf_one (psf_ret (pf_and (pf_cmp (o_eq c0.hu) (pf_var 1) (pf_str (by decide +kernel))) (pf_and (pf_cmp (o_eq c0.hu) (pf_callB c_len T.n_len (by decide +kernel) (paf_cons (pf_var 2) paf_nil)) pf_int) (pf_and (pf_call c0 (ok_are_words T) (by omega) (paf_cons (pf_ix (pf_var 2) pf_int) (paf_cons pf_int (paf_cons pf_int paf_nil)))) (pf_one (pf_call c0 (ok_is_between T) (by omega) (paf_cons (pf_ix (pf_var 2) pf_int) (paf_cons pf_int (paf_cons pf_int paf_nil))))))))))))))
abbrev s_is_at_most : Stmt := top 11
abbrev N_is_at_most : List PySem.Str := ["value", "deep", "part"]
theorem sc_is_at_most : FnScope N_is_at_most ["value", "deep"] (defScope s_is_at_most) := ⟨rfl, rfl, rfl, by decide +kernel, rfl, by decide +kernel, by decide +kernel⟩
theorem okn_is_at_most (T : Txt K mg cl) : ∀ n : Nat, FnD P w K mg base cl "is_at_most" 2 (2 + n) (P_is_at_most n)
  | 0 => by
    obtain ⟨f, fd, Fn, hm, hb⟩ := T.f_is_at_most
    unfold P_is_at_most
    exact (fnd_un hm Fn.kp hb).mono (Nat.zero_le _)
  | n + 1 => by
    have ih := okn_is_at_most T n
    obtain ⟨f, fd, Fn, hm, hb⟩ := T.f_is_at_most
    unfold P_is_at_most
    exact fnd_mk (N := N_is_at_most) (ps := ["value", "deep"]) (k := 2 + n) Fn sc_is_at_most hb hm fun cdv A outer s H E c0 =>
    (pssf_cons (psf_if (PwF.pt (pw_or (pt_cmp o_lt (pf_var 1) pf_int) (pw_or (pt_not (pt_of (pf_isi .tuple (pf_var 0) T.n_isinstance T.n_tuple (by decide +kernel)))) (pw_or (pt_cmp o_lt (pf_callB c_len T.n_len (by decide +kernel) (paf_cons (pf_var 0) paf_nil)) pf_int) (pw_or1 (pt_not (pt_of (pf_isi .str (pf_ix (pf_var 0) pf_int) T.n_isinstance T.n_str (by decide +kernel)))))))))
    (pssf_one (psf_ret pf_bl))
    pssf_nil)
    (pssf_cons (psf_if (pt_cmp (o_eq c0.hu) (pf_ix (pf_var 0) pf_int) (pf_str (by decide +kernel)))
    (pssf_one (psf_ret (pf_and (pf_cmp (o_eq c0.hu) (pf_callB c_len T.n_len (by decide +kernel) (paf_cons (pf_var 0) paf_nil)) pf_int) (pf_one (pf_call c0 ih (by omega) (paf_cons (pf_ix (pf_var 0) pf_int) (paf_cons (pf_bin o_sub (pf_var 1) pf_int) paf_nil)))))))
    pssf_nil)
    (pssf_cons (psf_if (pt_cmp (o_in c0.hu) (pf_ix (pf_var 0) pf_int) (pf_tup (paf_cons (pf_str (by decide +kernel)) (paf_cons (pf_str (by decide +kernel)) paf_nil))))
    (pssf_one (psf_ret (pf_and (pf_cmp (o_eq c0.hu) (pf_callB c_len T.n_len (by decide +kernel) (paf_cons (pf_var 0) paf_nil)) pf_int) (pf_one (pf_callB (c_all c0.calm) T.n_all (by decide +kernel) (paf_cons (pf_comp c0.calm c0.nd (pi_val (pf_slice (pf_var 0) (pof_some pf_int) pof_none)) (blkOk_by (own := [("part", 2)]) (N := N_is_at_most) (sc := defScope s_is_at_most) (by decide +kernel)) (fun _ _ _ _ _ => (pg_nm 2 c0.blk.nd)) (fun _ _ _ _ _ => pts_no) (fun _ _ _ _ _ => (pf_call c0.blk ih (by omega) (paf_cons (pf_var 2) (paf_cons (pf_bin o_sub (pf_var 1) pf_int) paf_nil))))) paf_nil))))))
    pssf_nil)
    (pssf_one (psf_ret (pf_call c0 (ok_is_simple T) (by omega) (paf_cons (pf_var 0) paf_nil)))))))
theorem okq_is_at_most (T : Txt K mg cl) : FnD P w K mg base cl "is_at_most" 2 7 (P_is_at_most fuel) := by
  rw [fuel_eq]
  exact okn_is_at_most T 5
abbrev s_is_question : Stmt := top 12
abbrev N_is_question : List PySem.Str := ["value"]
theorem sc_is_question : FnScope N_is_question ["value"] (defScope s_is_question) := ⟨rfl, rfl, rfl, by decide +kernel, rfl, by decide +kernel, by decide +kernel⟩
theorem ok_is_question (T : Txt K mg cl) : FnD P w K mg base cl "is_question" 1 8 P_is_question := by
    obtain ⟨f, fd, Fn, hm, hb⟩ := T.f_is_question
    unfold P_is_question
    exact fnd_mk (N := N_is_question) (ps := ["value"]) (k := 7) Fn sc_is_question hb hm fun cdv A outer s H E c0 =>
    (pssf_one (psf_ret (pf_call c0 (okq_is_at_most T) (by omega) (paf_cons (pf_var 0) (paf_cons (pf_globInt T.g_DEEP.choose_spec) paf_nil)))))
abbrev s_check_question : Stmt := top 13
abbrev N_check_question : List PySem.Str := ["value"]
theorem sc_check_question : FnScope N_check_question ["value"] (defScope s_check_question) := ⟨rfl, rfl, rfl, by decide +kernel, rfl, by decide +kernel, by decide +kernel⟩
theorem ok_check_question (T : Txt K mg cl) : FnD P w K mg base cl "check_question" 1 9 P_check_question := by
    obtain ⟨f, fd, Fn, hm, hb⟩ := T.f_check_question
    unfold P_check_question
    exact fnd_mk (N := N_check_question) (ps := ["value"]) (k := 8) Fn sc_check_question hb hm fun cdv A outer s H E c0 =>
    (pssf_one (psf_if (pt_not (pt_of (pf_call c0 (ok_is_question T) (by omega) (paf_cons (pf_var 0) paf_nil))))
    (pssf_one (psf_raise T.x_InvalidQuestion c0.calm c0.take))
    pssf_nil))
abbrev s_check_text : Stmt := top 14
abbrev N_check_text : List PySem.Str := ["value"]
theorem sc_check_text : FnScope N_check_text ["value"] (defScope s_check_text) := ⟨rfl, rfl, rfl, by decide +kernel, rfl, by decide +kernel, by decide +kernel⟩
theorem ok_check_text (T : Txt K mg cl) : FnD P w K mg base cl "check_text" 1 2 P_check_text := by
    obtain ⟨f, fd, Fn, hm, hb⟩ := T.f_check_text
    unfold P_check_text
    exact fnd_mk (N := N_check_text) (ps := ["value"]) (k := 1) Fn sc_check_text hb hm fun cdv A outer s H E c0 =>
    (pssf_one (psf_if (pt_not (pt_of (pf_call c0 (ok_are_words T) (by omega) (paf_cons (pf_var 0) (paf_cons pf_int (paf_cons pf_int paf_nil))))))
    (pssf_one (psf_raise T.x_InvalidText c0.calm c0.take))
    pssf_nil))
abbrev s_depth_of : Stmt := top 15
abbrev N_depth_of : List PySem.Str := ["question"]
theorem sc_depth_of : FnScope N_depth_of ["question"] (defScope s_depth_of) := ⟨rfl, rfl, rfl, by decide +kernel, rfl, by decide +kernel, by decide +kernel⟩
theorem okn_depth_of (T : Txt K mg cl) : ∀ n : Nat, FnD P w K mg base cl "depth_of" 1 (0 + n) (P_depth_of n)
  | 0 => by
    obtain ⟨f, fd, Fn, hm, hb⟩ := T.f_depth_of
    unfold P_depth_of
    exact (fnd_un hm Fn.kp hb).mono (Nat.zero_le _)
  | n + 1 => by
    have ih := okn_depth_of T n
    obtain ⟨f, fd, Fn, hm, hb⟩ := T.f_depth_of
    unfold P_depth_of
    exact fnd_mk (N := N_depth_of) (ps := ["question"]) (k := 0 + n) Fn sc_depth_of hb hm fun cdv A outer s H E c0 =>
    (pssf_cons (psf_if (pt_cmp (o_eq c0.hu) (pf_ix (pf_var 0) pf_int) (pf_str (by decide +kernel)))
    (pssf_one (psf_ret (pf_bin o_add pf_int (pf_call c0 ih (by omega) (paf_cons (pf_ix (pf_var 0) pf_int) paf_nil)))))
    pssf_nil)
    (pssf_cons (psf_if (pt_cmp (o_in c0.hu) (pf_ix (pf_var 0) pf_int) (pf_tup (paf_cons (pf_str (by decide +kernel)) (paf_cons (pf_str (by decide +kernel)) paf_nil))))
    (pssf_one (psf_ret (pf_bin o_add pf_int (pf_callB (c_max2 c0.calm) T.n_max (by decide +kernel) (paf_cons (pf_call c0 ih (by omega) (paf_cons (pf_ix (pf_var 0) pf_int) paf_nil)) (paf_cons (pf_call c0 ih (by omega) (paf_cons (pf_ix (pf_var 0) pf_int) paf_nil)) paf_nil))))))
    pssf_nil)
    (pssf_one (psf_ret pf_int))))
theorem okq_depth_of (T : Txt K mg cl) : FnD P w K mg base cl "depth_of" 1 5 (P_depth_of fuel) := by
  rw [fuel_eq]
  exact okn_depth_of T 5
abbrev s_depth : Stmt := top 16
abbrev N_depth : List PySem.Str := ["question"]
theorem sc_depth : FnScope N_depth ["question"] (defScope s_depth) := ⟨rfl, rfl, rfl, by decide +kernel, rfl, by decide +kernel, by decide +kernel⟩
theorem ok_depth (T : Txt K mg cl) : FnD P w K mg base cl "depth" 1 10 P_depth := by
    obtain ⟨f, fd, Fn, hm, hb⟩ := T.f_depth
    unfold P_depth
    exact fnd_mk (N := N_depth) (ps := ["question"]) (k := 9) Fn sc_depth hb hm fun cdv A outer s H E c0 =>
    (pssf_cons (psf_expr (pf_call c0 (ok_check_question T) (by omega) (paf_cons (pf_var 0) paf_nil)))
    (pssf_one (psf_ret (pf_call c0 (okq_depth_of T) (by omega) (paf_cons (pf_var 0) paf_nil)))))
abbrev s_are_close : Stmt := top 17
abbrev N_are_close : List PySem.Str := ["text", "v", "w", "gap", "place", "word"]
theorem sc_are_close : FnScope N_are_close ["text", "v", "w", "gap"] (defScope s_are_close) := ⟨rfl, rfl, rfl, by decide +kernel, rfl, by decide +kernel, by decide +kernel⟩
theorem ok_are_close (T : Txt K mg cl) : FnD P w K mg base cl "are_close" 4 1 P_are_close := by
    obtain ⟨f, fd, Fn, hm, hb⟩ := T.f_are_close
    unfold P_are_close
    exact fnd_mk (N := N_are_close) (ps := ["text", "v", "w", "gap"]) (k := 0) Fn sc_are_close hb hm fun cdv A outer s H E c0 =>
    (pssf_one (psf_ret (pf_callB (c_any c0.calm) T.n_any (by decide +kernel) (paf_cons (pf_comp c0.calm c0.nd (pi_enumS c0.calm (pf_var 0) T.n_enumerate) (blkOk_by (own := [("place", 4), ("word", 5)]) (N := N_are_close) (sc := defScope s_are_close) (by decide +kernel)) (fun _ _ _ _ _ => (pg_tp c0.blk.calm (pgsf_cons (pg_nm 4 c0.blk.nd) (pgsf_cons (pg_nm 5 c0.blk.nd) pgsf_nil)))) (fun _ _ _ _ _ => pts_no) (fun _ _ _ _ _ => (pf_and (pf_cmp (o_eq c0.blk.hu) (pf_var 5) (pf_var 1)) (pf_one (pf_cmp (o_in c0.blk.hu) (pf_var 2) (pf_slice (pf_var 0) (pof_some (pf_bin o_add (pf_var 4) pf_int)) (pof_some (pf_bin o_add (pf_bin o_add (pf_var 4) pf_int) (pf_var 3))))))))) paf_nil))))
abbrev s_does_find : Stmt := top 18
abbrev N_does_find : List PySem.Str := ["question", "text", "name", "v"]
theorem sc_does_find : FnScope N_does_find ["question", "text"] (defScope s_does_find) := ⟨rfl, rfl, rfl, by decide +kernel, rfl, by decide +kernel, by decide +kernel⟩
theorem okn_does_find (T : Txt K mg cl) : ∀ n : Nat, FnD P w K mg base cl "does_find" 2 (1 + n) (P_does_find n)
  | 0 => by
    obtain ⟨f, fd, Fn, hm, hb⟩ := T.f_does_find
    unfold P_does_find
    exact (fnd_un hm Fn.kp hb).mono (Nat.zero_le _)
  | n + 1 => by
    have ih := okn_does_find T n
    obtain ⟨f, fd, Fn, hm, hb⟩ := T.f_does_find
    unfold P_does_find
    exact fnd_mk (N := N_does_find) (ps := ["question", "text"]) (k := 1 + n) Fn sc_does_find hb hm fun cdv A outer s H E c0 =>
    (pssf_cons (psf_set 2 c0.nd (pf_ix (pf_var 0) pf_int))
    (pssf_cons (psf_if (pt_cmp (o_eq c0.hu) (pf_var 2) (pf_str (by decide +kernel)))
    (pssf_one (psf_ret (pf_not (pf_call c0 ih (by omega) (paf_cons (pf_ix (pf_var 0) pf_int) (paf_cons (pf_var 1) paf_nil))))))
    pssf_nil)
    (pssf_cons (psf_if (pt_cmp (o_eq c0.hu) (pf_var 2) (pf_str (by decide +kernel)))
    (pssf_one (psf_ret (pf_and (pf_call c0 ih (by omega) (paf_cons (pf_ix (pf_var 0) pf_int) (paf_cons (pf_var 1) paf_nil))) (pf_one (pf_call c0 ih (by omega) (paf_cons (pf_ix (pf_var 0) pf_int) (paf_cons (pf_var 1) paf_nil)))))))
    pssf_nil)
    (pssf_cons (psf_if (pt_cmp (o_eq c0.hu) (pf_var 2) (pf_str (by decide +kernel)))
    (pssf_one (psf_ret (pf_or (pf_call c0 ih (by omega) (paf_cons (pf_ix (pf_var 0) pf_int) (paf_cons (pf_var 1) paf_nil))) (pf_one (pf_call c0 ih (by omega) (paf_cons (pf_ix (pf_var 0) pf_int) (paf_cons (pf_var 1) paf_nil)))))))
    pssf_nil)
    (pssf_cons (psf_set 3 c0.nd (pf_ix (pf_var 0) pf_int))
    (pssf_cons (psf_if (pt_cmp (o_in c0.hu) (pf_var 2) (pf_tup (paf_cons (pf_str (by decide +kernel)) (paf_cons (pf_str (by decide +kernel)) paf_nil))))
    (pssf_one (psf_ret (pf_cmp (o_in c0.hu) (pf_var 3) (pf_var 1))))
    pssf_nil)
    (pssf_cons (psf_if (pt_cmp (o_eq c0.hu) (pf_var 2) (pf_str (by decide +kernel)))
    (pssf_one (psf_ret (pf_cmp (o_eq c0.hu) (pf_slice (pf_var 1) pof_none (pof_some pf_int)) (pf_var 3))))
    pssf_nil)
    (pssf_cons (psf_if (pt_cmp (o_eq c0.hu) (pf_var 2) (pf_str (by decide +kernel)))
    (pssf_one (psf_ret (pf_cmp (o_eq c0.hu) (pf_slice (pf_var 1) (pof_some (pf_neg pf_int)) pof_none) (pf_var 3))))
    pssf_nil)
    (pssf_cons (psf_if (pt_cmp (o_eq c0.hu) (pf_var 2) (pf_str (by decide +kernel)))
    (pssf_one (psf_ret (pf_cmp o_ge (pf_strM PySem.F.slot_str_count PySem.F.type_str_count m_count (pf_var 1) (pf_var 3)) (pf_ix (pf_var 0) pf_int))))
    pssf_nil)
    (pssf_cons (psf_if (PwF.pt (pw_and (pt_cmp (o_eq c0.hu) (pf_var 2) (pf_str (by decide +kernel))) (pw_and1 (pt_of (pf_call c0 (ok_are_close T) (by omega) (paf_cons (pf_var 1) (paf_cons (pf_ix (pf_var 0) pf_int) (paf_cons (pf_var 3) (paf_cons (pf_ix (pf_var 0) pf_int) paf_nil)))))))))
    (pssf_one (psf_ret pf_bl))
    pssf_nil)
    (pssf_one (psf_ret (pf_call c0 (ok_are_close T) (by omega) (paf_cons (pf_var 1) (paf_cons (pf_var 3) (paf_cons (pf_ix (pf_var 0) pf_int) (paf_cons (pf_ix (pf_var 0) pf_int) paf_nil)))))))))))))))))
theorem okq_does_find (T : Txt K mg cl) : FnD P w K mg base cl "does_find" 2 6 (P_does_find fuel) := by
  rw [fuel_eq]
  exact okn_does_find T 5
abbrev s_finds : Stmt := top 19
abbrev N_finds : List PySem.Str := ["question", "text"]
theorem sc_finds : FnScope N_finds ["question", "text"] (defScope s_finds) := ⟨rfl, rfl, rfl, by decide +kernel, rfl, by decide +kernel, by decide +kernel⟩
theorem ok_finds (T : Txt K mg cl) : FnD P w K mg base cl "finds" 2 10 P_finds := by
    obtain ⟨f, fd, Fn, hm, hb⟩ := T.f_finds
    unfold P_finds
    exact fnd_mk (N := N_finds) (ps := ["question", "text"]) (k := 9) Fn sc_finds hb hm fun cdv A outer s H E c0 =>
    (pssf_cons (psf_expr (pf_call c0 (ok_check_question T) (by omega) (paf_cons (pf_var 0) paf_nil)))
    (pssf_cons (psf_expr (pf_call c0 (ok_check_text T) (by omega) (paf_cons (pf_var 1) paf_nil)))
    (pssf_one (psf_ret (pf_call c0 (okq_does_find T) (by omega) (paf_cons (pf_var 0) (paf_cons (pf_var 1) paf_nil)))))))
abbrev s_found_among : Stmt := top 20
abbrev N_found_among : List PySem.Str := ["question", "texts", "text"]
theorem sc_found_among : FnScope N_found_among ["question", "texts"] (defScope s_found_among) := ⟨rfl, rfl, rfl, by decide +kernel, rfl, by decide +kernel, by decide +kernel⟩
theorem ok_found_among (T : Txt K mg cl) : FnD P w K mg base cl "found_among" 2 10 P_found_among := by
    obtain ⟨f, fd, Fn, hm, hb⟩ := T.f_found_among
    unfold P_found_among
    exact fnd_mk (N := N_found_among) (ps := ["question", "texts"]) (k := 9) Fn sc_found_among hb hm fun cdv A outer s H E c0 =>
    (pssf_cons (psf_expr (pf_call c0 (ok_check_question T) (by omega) (paf_cons (pf_var 0) paf_nil)))
    (pssf_cons (psf_if (PwF.pt (pw_or (pt_not (pt_of (pf_isi .tuple (pf_var 1) T.n_isinstance T.n_tuple (by decide +kernel)))) (pw_or (pt_cmp o_gt (pf_callB c_len T.n_len (by decide +kernel) (paf_cons (pf_var 1) paf_nil)) pf_int) (pw_or1 (pt_not (pt_of (pf_callB (c_all c0.calm) T.n_all (by decide +kernel) (paf_cons (pf_comp c0.calm c0.nd (pi_val (pf_var 1)) (blkOk_by (own := [("text", 2)]) (N := N_found_among) (sc := defScope s_found_among) (by decide +kernel)) (fun _ _ _ _ _ => (pg_nm 2 c0.blk.nd)) (fun _ _ _ _ _ => pts_no) (fun _ _ _ _ _ => (pf_call c0.blk (ok_are_words T) (by omega) (paf_cons (pf_var 2) (paf_cons pf_int (paf_cons pf_int paf_nil)))))) paf_nil))))))))
    (pssf_one (psf_raise T.x_InvalidTexts c0.calm c0.take))
    pssf_nil)
    (pssf_one (psf_ret (pf_callTy c_tuple T.n_tuple (by decide +kernel) (paf_cons (pf_comp c0.calm c0.nd (pi_val (pf_var 1)) (blkOk_by (own := [("text", 2)]) (N := N_found_among) (sc := defScope s_found_among) (by decide +kernel)) (fun _ _ _ _ _ => (pg_nm 2 c0.blk.nd)) (fun _ _ _ _ _ => (pts_if (pt_of (pf_call c0.blk (okq_does_find T) (by omega) (paf_cons (pf_var 0) (paf_cons (pf_var 2) paf_nil)))))) (fun _ _ _ _ _ => (pf_var 2))) paf_nil))))))
abbrev s__law_town : Stmt := top 22
abbrev N__law_town : List PySem.Str := ["_law_script"]
theorem sc__law_town : FnScope N__law_town ["_law_script"] (defScope s__law_town) := ⟨rfl, rfl, rfl, by decide +kernel, rfl, by decide +kernel, by decide +kernel⟩
theorem ok__law_town (T : Txt K mg cl) : FnD P w K mg base cl "_law_town" 1 1 L_town := by
    obtain ⟨f, fd, Fn, hm, hb⟩ := T.f__law_town
    unfold L_town
    exact fnd_mk (N := N__law_town) (ps := ["_law_script"]) (k := 0) Fn sc__law_town hb hm fun cdv A outer s H E c0 =>
    (pssf_one (psf_ret (pf_catNew (pf_lst (paf_cons pf_int paf_nil)) (pf_callTy c_list T.n_list (by decide +kernel) (paf_cons (pf_var 0) paf_nil)))))
abbrev s__law_draw : Stmt := top 23
abbrev N__law_draw : List PySem.Str := ["_law_script", "_law_town_here", "_law_limit", "_law_at", "_law_left", "_law_number"]
theorem sc__law_draw : FnScope N__law_draw ["_law_script", "_law_town_here", "_law_limit"] (defScope s__law_draw) := ⟨rfl, rfl, rfl, by decide +kernel, rfl, by decide +kernel, by decide +kernel⟩
theorem ok__law_draw (T : Txt K mg cl) : FnD P w K mg base cl "_law_draw" 3 1 L_draw := by
    obtain ⟨f, fd, Fn, hm, hb⟩ := T.f__law_draw
    unfold L_draw
    exact fnd_mk (N := N__law_draw) (ps := ["_law_script", "_law_town_here", "_law_limit"]) (k := 0) Fn sc__law_draw hb hm fun cdv A outer s H E c0 =>
    (pssf_cons (psf_asg (pf_bin o_add (pf_ix (pf_var 1) pf_int) pf_int) (pg_subL (pf_var 1) pf_int))
    (pssf_cons (psf_if (pt_cmp (o_eq c0.hu) (pf_var 0) (pf_lst paf_nil))
    (pssf_one (psf_ret (pf_bin o_mod (pf_bin o_fdiv (pf_bin o_mul (pf_bin o_mul (pf_ix (pf_var 1) pf_int) (pf_ix (pf_var 1) pf_int)) pf_int) pf_int) (pf_var 2))))
    pssf_nil)
    (pssf_cons (psf_set 3 c0.nd (pf_bin o_mod (pf_ix (pf_var 1) pf_int) (pf_callB c_len T.n_len (by decide +kernel) (paf_cons (pf_var 0) paf_nil))))
    (pssf_cons (psf_set 4 c0.nd (pf_ix (pf_var 1) (pf_bin o_add pf_int (pf_var 3))))
    (pssf_cons (psf_if (PwF.pt (pw_and (pt_cmp o_ge (pf_ix (pf_var 0) (pf_var 3)) (pf_bin o_pow pf_int pf_int)) (pw_and1 (pt_cmp o_gt (pf_var 4) pf_int))))
    (pssf_cons (psf_asg (pf_bin o_fdiv (pf_var 4) (pf_var 2)) (pg_subL (pf_var 1) (pf_bin o_add pf_int (pf_var 3))))
    (pssf_one (psf_ret (pf_bin o_mod (pf_var 4) (pf_var 2)))))
    pssf_nil)
    (pssf_cons (psf_set 5 c0.nd (pf_bin o_mod (pf_bin o_add (pf_ix (pf_var 0) (pf_var 3)) (pf_bin o_mul pf_int (pf_ix (pf_var 1) pf_int))) pf_int))
    (pssf_cons (psf_set 5 c0.nd (pf_bin o_mod (pf_bin o_pow (pf_var 5) pf_int) pf_int))
    (pssf_one (psf_ret (pf_bin o_mod (pf_bin o_fdiv (pf_bin o_mod (pf_bin o_add (pf_bin o_mul (pf_bin o_fdiv (pf_var 5) pf_int) pf_int) (pf_var 5)) pf_int) pf_int) (pf_var 2)))))))))))
abbrev s__law_pick : Stmt := top 24
abbrev N__law_pick : List PySem.Str := ["_law_script", "_law_town_here", "_law_choices"]
theorem sc__law_pick : FnScope N__law_pick ["_law_script", "_law_town_here", "_law_choices"] (defScope s__law_pick) := ⟨rfl, rfl, rfl, by decide +kernel, rfl, by decide +kernel, by decide +kernel⟩
theorem ok__law_pick (T : Txt K mg cl) : FnD P w K mg base cl "_law_pick" 3 2 L_pick := by
    obtain ⟨f, fd, Fn, hm, hb⟩ := T.f__law_pick
    unfold L_pick
    exact fnd_mk (N := N__law_pick) (ps := ["_law_script", "_law_town_here", "_law_choices"]) (k := 1) Fn sc__law_pick hb hm fun cdv A outer s H E c0 =>
    (pssf_one (psf_ret (pf_ix (pf_var 2) (pf_call c0 (ok__law_draw T) (by omega) (paf_cons (pf_var 0) (paf_cons (pf_var 1) (paf_cons (pf_callB c_len T.n_len (by decide +kernel) (paf_cons (pf_var 2) paf_nil)) paf_nil)))))))
abbrev s__law_word : Stmt := top 25
abbrev N__law_word : List PySem.Str := ["_law_script", "_law_town_here"]
theorem sc__law_word : FnScope N__law_word ["_law_script", "_law_town_here"] (defScope s__law_word) := ⟨rfl, rfl, rfl, by decide +kernel, rfl, by decide +kernel, by decide +kernel⟩
theorem ok__law_word (T : Txt K mg cl) : FnD P w K mg base cl "_law_word" 2 3 L_word := by
    obtain ⟨f, fd, Fn, hm, hb⟩ := T.f__law_word
    unfold L_word
    exact fnd_mk (N := N__law_word) (ps := ["_law_script", "_law_town_here"]) (k := 2) Fn sc__law_word hb hm fun cdv A outer s H E c0 =>
    (pssf_one (psf_ret (pf_ix (pf_str (by decide +kernel)) (pf_call c0 (ok__law_draw T) (by omega) (paf_cons (pf_var 0) (paf_cons (pf_var 1) (paf_cons (pf_call c0 (ok__law_pick T) (by omega) (paf_cons (pf_var 0) (paf_cons (pf_var 1) (paf_cons (pf_lst (paf_cons pf_int (paf_cons pf_int (paf_cons pf_int paf_nil)))) paf_nil)))) paf_nil)))))))
abbrev s__law_simple : Stmt := top 26
abbrev N__law_simple : List PySem.Str := ["_law_script", "_law_town_here", "_law_way", "_law_v", "_law_w"]
theorem sc__law_simple : FnScope N__law_simple ["_law_script", "_law_town_here"] (defScope s__law_simple) := ⟨rfl, rfl, rfl, by decide +kernel, rfl, by decide +kernel, by decide +kernel⟩
theorem ok__law_simple (T : Txt K mg cl) : FnD P w K mg base cl "_law_simple" 2 4 L_simple := by
    obtain ⟨f, fd, Fn, hm, hb⟩ := T.f__law_simple
    unfold L_simple
    exact fnd_mk (N := N__law_simple) (ps := ["_law_script", "_law_town_here"]) (k := 3) Fn sc__law_simple hb hm fun cdv A outer s H E c0 =>
    (pssf_cons (psf_par3 2 3 4 c0.calm c0.nd (paf_cons (pf_call c0 (ok__law_draw T) (by omega) (paf_cons (pf_var 0) (paf_cons (pf_var 1) (paf_cons pf_int paf_nil)))) (paf_cons (pf_call c0 (ok__law_word T) (by omega) (paf_cons (pf_var 0) (paf_cons (pf_var 1) paf_nil))) (paf_cons (pf_call c0 (ok__law_word T) (by omega) (paf_cons (pf_var 0) (paf_cons (pf_var 1) paf_nil))) paf_nil))))
    (pssf_cons (psf_if (pt_cmp o_lt (pf_var 2) pf_int)
    (pssf_one (psf_ret (pf_tup (paf_cons (pf_str (by decide +kernel)) (paf_cons (pf_bin o_add (pf_bin o_add (pf_var 3) (pf_var 4)) (pf_call c0 (ok__law_pick T) (by omega) (paf_cons (pf_var 0) (paf_cons (pf_var 1) (paf_cons (pf_lst (paf_cons (pf_str (by decide +kernel)) (paf_cons (pf_call c0 (ok__law_word T) (by omega) (paf_cons (pf_var 0) (paf_cons (pf_var 1) paf_nil))) paf_nil))) paf_nil))))) paf_nil)))))
    pssf_nil)
    (pssf_cons (psf_if (pt_cmp o_lt (pf_var 2) pf_int)
    (pssf_one (psf_ret (pf_tup (paf_cons (pf_ix (pf_tup (paf_cons (pf_str (by decide +kernel)) (paf_cons (pf_str (by decide +kernel)) paf_nil))) (pf_bin o_sub (pf_var 2) pf_int)) (paf_cons (pf_var 3) (paf_cons (pf_var 4) (paf_cons (pf_call c0 (ok__law_draw T) (by omega) (paf_cons (pf_var 0) (paf_cons (pf_var 1) (paf_cons pf_int paf_nil)))) paf_nil)))))))
    pssf_nil)
    (pssf_cons (psf_if (pt_cmp (o_eq c0.hu) (pf_var 2) pf_int)
    (pssf_one (psf_ret (pf_tup (paf_cons (pf_str (by decide +kernel)) (paf_cons (pf_var 3) (paf_cons (pf_bin o_add pf_int (pf_call c0 (ok__law_draw T) (by omega) (paf_cons (pf_var 0) (paf_cons (pf_var 1) (paf_cons pf_int paf_nil))))) paf_nil))))))
    pssf_nil)
    (pssf_one (psf_ret (pf_tup (paf_cons (pf_ix (pf_tup (paf_cons (pf_str (by decide +kernel)) (paf_cons (pf_str (by decide +kernel)) (paf_cons (pf_str (by decide +kernel)) paf_nil)))) (pf_call c0 (ok__law_draw T) (by omega) (paf_cons (pf_var 0) (paf_cons (pf_var 1) (paf_cons pf_int paf_nil))))) (paf_cons (pf_var 3) paf_nil)))))))))
abbrev s__law_question : Stmt := top 27
abbrev N__law_question : List PySem.Str := ["_law_script", "_law_town_here", "_law_deep", "_law_way", "_law_name"]
theorem sc__law_question : FnScope N__law_question ["_law_script", "_law_town_here", "_law_deep"] (defScope s__law_question) := ⟨rfl, rfl, rfl, by decide +kernel, rfl, by decide +kernel, by decide +kernel⟩
theorem okn__law_question (T : Txt K mg cl) : ∀ n : Nat, FnD P w K mg base cl "_law_question" 3 (4 + n) (L_question n)
  | 0 => by
    obtain ⟨f, fd, Fn, hm, hb⟩ := T.f__law_question
    unfold L_question
    exact (fnd_un hm Fn.kp hb).mono (Nat.zero_le _)
  | n + 1 => by
    have ih := okn__law_question T n
    obtain ⟨f, fd, Fn, hm, hb⟩ := T.f__law_question
    unfold L_question
    exact fnd_mk (N := N__law_question) (ps := ["_law_script", "_law_town_here", "_law_deep"]) (k := 4 + n) Fn sc__law_question hb hm fun cdv A outer s H E c0 =>
    (pssf_cons (psf_set 3 c0.nd (pf_call c0 (ok__law_draw T) (by omega) (paf_cons (pf_var 0) (paf_cons (pf_var 1) (paf_cons pf_int paf_nil)))))
    (pssf_cons (psf_if (PwF.pt (pw_or (pt_cmp (o_eq c0.hu) (pf_var 2) pf_int) (pw_or1 (pt_cmp (o_eq c0.hu) (pf_var 3) pf_int))))
    (pssf_one (psf_ret (pf_call c0 (ok__law_simple T) (by omega) (paf_cons (pf_var 0) (paf_cons (pf_var 1) paf_nil)))))
    pssf_nil)
    (pssf_cons (psf_if (pt_cmp (o_eq c0.hu) (pf_var 3) pf_int)
    (pssf_one (psf_ret (pf_tup (paf_cons (pf_str (by decide +kernel)) (paf_cons (pf_call c0 ih (by omega) (paf_cons (pf_var 0) (paf_cons (pf_var 1) (paf_cons (pf_bin o_sub (pf_var 2) pf_int) paf_nil)))) paf_nil)))))
    pssf_nil)
    (pssf_cons (psf_set 4 c0.nd (pf_ix (pf_tup (paf_cons (pf_str (by decide +kernel)) (paf_cons (pf_str (by decide +kernel)) paf_nil))) (pf_call c0 (ok__law_draw T) (by omega) (paf_cons (pf_var 0) (paf_cons (pf_var 1) (paf_cons pf_int paf_nil))))))
    (pssf_one (psf_ret (pf_tup (paf_cons (pf_var 4) (paf_cons (pf_call c0 ih (by omega) (paf_cons (pf_var 0) (paf_cons (pf_var 1) (paf_cons (pf_bin o_sub (pf_var 2) pf_int) paf_nil)))) (paf_cons (pf_call c0 ih (by omega) (paf_cons (pf_var 0) (paf_cons (pf_var 1) (paf_cons (pf_bin o_sub (pf_var 2) pf_int) paf_nil)))) paf_nil))))))))))
theorem okq__law_question (T : Txt K mg cl) : FnD P w K mg base cl "_law_question" 3 9 (L_question fuel) := by
  rw [fuel_eq]
  exact okn__law_question T 5
abbrev s__law_text : Stmt := top 28
abbrev N__law_text : List PySem.Str := ["_law_script", "_law_town_here", "_law_most", "_law_k"]
theorem sc__law_text : FnScope N__law_text ["_law_script", "_law_town_here", "_law_most"] (defScope s__law_text) := ⟨rfl, rfl, rfl, by decide +kernel, rfl, by decide +kernel, by decide +kernel⟩
theorem ok__law_text (T : Txt K mg cl) : FnD P w K mg base cl "_law_text" 3 4 L_text := by
    obtain ⟨f, fd, Fn, hm, hb⟩ := T.f__law_text
    unfold L_text
    exact fnd_mk (N := N__law_text) (ps := ["_law_script", "_law_town_here", "_law_most"]) (k := 3) Fn sc__law_text hb hm fun cdv A outer s H E c0 =>
    (pssf_one (psf_ret (pf_strM PySem.F.slot_str_join PySem.F.type_str_join m_join (pf_str (by decide +kernel)) (pf_comp c0.calm c0.nd (pi_rng1 (pf_call c0 (ok__law_draw T) (by omega) (paf_cons (pf_var 0) (paf_cons (pf_var 1) (paf_cons (pf_bin o_add (pf_var 2) pf_int) paf_nil)))) T.n_range) (blkOk_by (own := [("_law_k", 3)]) (N := N__law_text) (sc := defScope s__law_text) (by decide +kernel)) (fun _ _ _ _ _ => (pg_nm 3 c0.blk.nd)) (fun _ _ _ _ _ => pts_no) (fun _ _ _ _ _ => (pf_call c0.blk (ok__law_word T) (by omega) (paf_cons (pf_var 0) (paf_cons (pf_var 1) paf_nil))))))))
abbrev s__law_finds : Stmt := top 29
abbrev N__law_finds : List PySem.Str := ["_law_question_here", "_law_text_here", "_law_places", "_law_others", "_law_place", "_law_name", "_law_parts", "_law_some", "_law_wide", "_law_part", "_law_k"]
theorem sc__law_finds : FnScope N__law_finds ["_law_question_here", "_law_text_here"] (defScope s__law_finds) := ⟨rfl, rfl, rfl, by decide +kernel, rfl, by decide +kernel, by decide +kernel⟩
theorem okn__law_finds (T : Txt K mg cl) : ∀ n : Nat, FnD P w K mg base cl "_law_finds" 2 (0 + n) (L_finds n)
  | 0 => by
    obtain ⟨f, fd, Fn, hm, hb⟩ := T.f__law_finds
    unfold L_finds
    exact (fnd_un hm Fn.kp hb).mono (Nat.zero_le _)
  | n + 1 => by
    have ih := okn__law_finds T n
    obtain ⟨f, fd, Fn, hm, hb⟩ := T.f__law_finds
    unfold L_finds
    exact fnd_mk (N := N__law_finds) (ps := ["_law_question_here", "_law_text_here"]) (k := 0 + n) Fn sc__law_finds hb hm fun cdv A outer s H E c0 =>
    (pssf_cons (psf_asg (pf_tup (paf_cons (pf_ix (pf_var 0) pf_int) (paf_cons (pf_slice (pf_var 0) (pof_some pf_int) pof_none) paf_nil))) (pg_tp c0.calm (pgsf_cons (pg_nm 5 c0.nd) (pgsf_cons (pg_nm 6 c0.nd) pgsf_nil))))
    (pssf_cons (psf_if (pt_cmp (o_in c0.hu) (pf_var 5) (pf_tup (paf_cons (pf_str (by decide +kernel)) (paf_cons (pf_str (by decide +kernel)) (paf_cons (pf_str (by decide +kernel)) paf_nil)))))
    (pssf_cons (ps_setcomp 7 c0.calm c0.nd (pi_val (pf_var 6)) (blkOk_by (own := [("_law_part", 9)]) (N := N__law_finds) (sc := defScope s__law_finds) (by decide +kernel)) (fun _ _ _ _ _ => (pg_nm 9 c0.blk.nd)) (fun _ _ _ _ _ => pts_no) (fun _ _ _ _ _ => (pf_call c0.blk ih (by omega) (paf_cons (pf_var 9) (paf_cons (pf_var 1) paf_nil)))) (sw_true rfl rfl rfl (by decide +kernel)))
    (pssf_one (psf_ret (pf_pick c0 (pp_cons (by decide +kernel) (pf_not (pf_ix (pf_var 7) pf_int)) (pp_cons (by decide +kernel) (pf_cmp (o_notIn c0.hu) pf_bl (pf_var 7)) (pp_cons (by decide +kernel) (pf_cmp (o_in c0.hu) pf_bl (pf_var 7)) pp_nil))) (pf_var 5)))))
    pssf_nil)
    (pssf_cons (ps_setcomp 2 c0.calm c0.nd (pi_rng1 (pf_callB c_len T.n_len (by decide +kernel) (paf_cons (pf_var 1) paf_nil)) T.n_range) (blkOk_by (own := [("_law_place", 4)]) (N := N__law_finds) (sc := defScope s__law_finds) (by decide +kernel)) (fun _ _ _ _ _ => (pg_nm 4 c0.blk.nd)) (fun _ _ _ _ _ => (pts_if (pt_cmp (o_eq c0.blk.hu) (pf_ix (pf_var 1) (pf_var 4)) (pf_ix (pf_var 6) pf_int)))) (fun _ _ _ _ _ => (pf_var 4)) (sw_true rfl rfl rfl (by decide +kernel)))
    (pssf_cons (psf_if (pt_cmp (o_eq c0.hu) (pf_var 5) (pf_str (by decide +kernel)))
    (pssf_one (psf_ret (pf_cmp o_ge (pf_callB c_len T.n_len (by decide +kernel) (paf_cons (pf_var 2) paf_nil)) (pf_ix (pf_var 6) pf_int))))
    pssf_nil)
    (pssf_cons (psf_if (pt_cmp (o_eq c0.hu) (pf_var 5) (pf_str (by decide +kernel)))
    (pssf_one (psf_ret (pf_cmp (o_ne c0.hu) (pf_comp c0.calm c0.nd (pi_rng1 (pf_callB c_len T.n_len (by decide +kernel) (paf_cons (pf_var 1) paf_nil)) T.n_range) (blkOk_by (own := [("_law_k", 10)]) (N := N__law_finds) (sc := defScope s__law_finds) (by decide +kernel)) (fun _ _ _ _ _ => (pg_nm 10 c0.blk.nd)) (fun _ _ _ _ _ => (pts_if (pt_cmp (o_eq c0.blk.hu) (pf_slice (pf_var 1) (pof_some (pf_var 10)) (pof_some (pf_bin o_add (pf_var 10) (pf_callB c_len T.n_len (by decide +kernel) (paf_cons (pf_ix (pf_var 6) pf_int) paf_nil))))) (pf_ix (pf_var 6) pf_int)))) (fun _ _ _ _ _ => (pf_var 10))) (pf_lst paf_nil))))
    pssf_nil)
    (pssf_cons (psf_if (PwF.pt (pw_or (pt_cmp (o_eq c0.hu) (pf_var 5) (pf_str (by decide +kernel))) (pw_or1 (pt_cmp (o_eq c0.hu) (pf_var 5) (pf_str (by decide +kernel))))))
    (pssf_one (psf_ret (pf_and (pf_cmp o_gt (pf_callB c_len T.n_len (by decide +kernel) (paf_cons (pf_var 1) paf_nil)) pf_int) (pf_one (pf_cmp (o_eq c0.hu) (pf_ix (pf_var 1) (pf_if (pt_cmp (o_eq c0.hu) (pf_var 5) (pf_str (by decide +kernel))) pf_int (pf_bin o_sub (pf_callB c_len T.n_len (by decide +kernel) (paf_cons (pf_var 1) paf_nil)) pf_int))) (pf_ix (pf_var 6) pf_int))))))
    pssf_nil)
    (pssf_cons (psf_if (pt_cmp (o_eq c0.hu) (pf_var 5) (pf_str (by decide +kernel)))
    (pssf_one (psf_ret (pf_cmp (o_ne c0.hu) (pf_var 2) (pf_lst paf_nil))))
    pssf_nil)
    (pssf_cons (ps_setcomp 3 c0.calm c0.nd (pi_rng1 (pf_callB c_len T.n_len (by decide +kernel) (paf_cons (pf_var 1) paf_nil)) T.n_range) (blkOk_by (own := [("_law_place", 4)]) (N := N__law_finds) (sc := defScope s__law_finds) (by decide +kernel)) (fun _ _ _ _ _ => (pg_nm 4 c0.blk.nd)) (fun _ _ _ _ _ => (pts_if (pt_cmp (o_eq c0.blk.hu) (pf_ix (pf_var 1) (pf_var 4)) (pf_ix (pf_var 6) pf_int)))) (fun _ _ _ _ _ => (pf_var 4)) (sw_true rfl rfl rfl (by decide +kernel)))
    (pssf_cons (psf_for c0.own c0.calm (pi_val (pf_var 2)) (pg_nm 4 c0.nd)
    (pssf_cons (psf_set 8 c0.nd (pf_bin o_add (pf_ix (pf_var 6) pf_int) pf_int))
    (pssf_one (psf_if (pt_cmp (o_ne c0.hu) (pf_comp c0.calm c0.nd (pi_val (pf_var 3)) (blkOk_by (own := [("_law_k", 10)]) (N := N__law_finds) (sc := defScope s__law_finds) (by decide +kernel)) (fun _ _ _ _ _ => (pg_nm 10 c0.blk.nd)) (fun _ _ _ _ _ => (pts_if (PwF.pt (pw_or (pt_chain o_lt o_le pf_int (pf_bin o_sub (pf_var 10) (pf_var 4)) (pf_var 8)) (pw_or1 (PwF.pt (pw_and (pt_cmp (o_eq c0.blk.hu) (pf_var 5) (pf_str (by decide +kernel))) (pw_and1 (pt_chain o_lt o_le pf_int (pf_bin o_sub (pf_var 4) (pf_var 10)) (pf_var 8)))))))))) (fun _ _ _ _ _ => (pf_var 10))) (pf_lst paf_nil))
    (pssf_one (psf_ret pf_bl))
    pssf_nil))))
    (pssf_one (psf_ret pf_bl)))))))))))
theorem okq__law_finds (T : Txt K mg cl) : FnD P w K mg base cl "_law_finds" 2 5 (L_finds fuel) := by
  rw [fuel_eq]
  exact okn__law_finds T 5
abbrev s__law_depth : Stmt := top 30
abbrev N__law_depth : List PySem.Str := ["_law_question_here", "_law_part"]
theorem sc__law_depth : FnScope N__law_depth ["_law_question_here"] (defScope s__law_depth) := ⟨rfl, rfl, rfl, by decide +kernel, rfl, by decide +kernel, by decide +kernel⟩
theorem okn__law_depth (T : Txt K mg cl) : ∀ n : Nat, FnD P w K mg base cl "_law_depth" 1 (0 + n) (L_depth n)
  | 0 => by
    obtain ⟨f, fd, Fn, hm, hb⟩ := T.f__law_depth
    unfold L_depth
    exact (fnd_un hm Fn.kp hb).mono (Nat.zero_le _)
  | n + 1 => by
    have ih := okn__law_depth T n
    obtain ⟨f, fd, Fn, hm, hb⟩ := T.f__law_depth
    unfold L_depth
    exact fnd_mk (N := N__law_depth) (ps := ["_law_question_here"]) (k := 0 + n) Fn sc__law_depth hb hm fun cdv A outer s H E c0 =>
    (pssf_cons (psf_if (pt_cmp (o_notIn c0.hu) (pf_ix (pf_var 0) pf_int) (pf_tup (paf_cons (pf_str (by decide +kernel)) (paf_cons (pf_str (by decide +kernel)) (paf_cons (pf_str (by decide +kernel)) paf_nil)))))
    (pssf_one (psf_ret pf_int))
    pssf_nil)
    (pssf_one (psf_ret (pf_bin o_add pf_int (pf_callB (c_max c0.calm) T.n_max (by decide +kernel) (paf_cons (pf_comp c0.calm c0.nd (pi_val (pf_slice (pf_var 0) (pof_some pf_int) pof_none)) (blkOk_by (own := [("_law_part", 1)]) (N := N__law_depth) (sc := defScope s__law_depth) (by decide +kernel)) (fun _ _ _ _ _ => (pg_nm 1 c0.blk.nd)) (fun _ _ _ _ _ => pts_no) (fun _ _ _ _ _ => (pf_call c0.blk ih (by omega) (paf_cons (pf_var 1) paf_nil)))) paf_nil))))))
theorem okq__law_depth (T : Txt K mg cl) : FnD P w K mg base cl "_law_depth" 1 5 (L_depth fuel) := by
  rw [fuel_eq]
  exact okn__law_depth T 5
abbrev s_law : Stmt := top 31
abbrev N_law : List PySem.Str := ["_law_script", "_law_town_here", "_law_question_here", "_law_texts", "_law_text_here", "_law_one", "_law_other", "_law_both", "_law_v", "_law_w", "_law_k"]
theorem sc_law : FnScope N_law ["_law_script"] (defScope s_law) := ⟨rfl, rfl, rfl, by decide +kernel, rfl, by decide +kernel, by decide +kernel⟩
theorem okf_law (T : Txt K mg cl) {f : Addr} {fd : FuncData} (Fn : Fun K "law" "law" (top 31) f fd) : FnOk P w K mg base (L2.CX P w) 11 f fd ["_law_script"] (spF K cl 1 L_law) := by
  unfold L_law
  exact fnok_mk (N := N_law) (ps := ["_law_script"]) (k := 10) Fn sc_law fun cdv A outer s H E c0 =>
    (pssf_cons (psf_set 1 c0.nd (pf_call c0 (ok__law_town T) (by omega) (paf_cons (pf_var 0) paf_nil)))
    (pssf_cons (psf_set 2 c0.nd (pf_call c0 (okq__law_question T) (by omega) (paf_cons (pf_var 0) (paf_cons (pf_var 1) (paf_cons pf_int paf_nil)))))
    (pssf_cons (psf_set 3 c0.nd (pf_callTy c_tuple T.n_tuple (by decide +kernel) (paf_cons (pf_comp c0.calm c0.nd (pi_rng1 pf_int T.n_range) (blkOk_by (own := [("_law_k", 10)]) (N := N_law) (sc := defScope s_law) (by decide +kernel)) (fun _ _ _ _ _ => (pg_nm 10 c0.blk.nd)) (fun _ _ _ _ _ => pts_no) (fun _ _ _ _ _ => (pf_call c0.blk (ok__law_text T) (by omega) (paf_cons (pf_var 0) (paf_cons (pf_var 1) (paf_cons pf_int paf_nil)))))) paf_nil)))
    (pssf_cons (psf_for c0.own c0.calm (pi_val (pf_var 3)) (pg_nm 4 c0.nd)
    (pssf_one (psf_if (pt_cmp (o_ne c0.hu) (pf_call c0 (ok_finds T) (by omega) (paf_cons (pf_var 2) (paf_cons (pf_var 4) paf_nil))) (pf_call c0 (okq__law_finds T) (by omega) (paf_cons (pf_var 2) (paf_cons (pf_var 4) paf_nil))))
    (pssf_one (psf_ret pf_bl))
    pssf_nil)))
    (pssf_cons (psf_if (pt_cmp (o_ne c0.hu) (pf_call c0 (ok_found_among T) (by omega) (paf_cons (pf_var 2) (paf_cons (pf_var 3) paf_nil))) (pf_callTy c_tuple T.n_tuple (by decide +kernel) (paf_cons (pf_comp c0.calm c0.nd (pi_val (pf_var 3)) (blkOk_by (own := [("_law_text_here", 4)]) (N := N_law) (sc := defScope s_law) (by decide +kernel)) (fun _ _ _ _ _ => (pg_nm 4 c0.blk.nd)) (fun _ _ _ _ _ => (pts_if (pt_of (pf_call c0.blk (okq__law_finds T) (by omega) (paf_cons (pf_var 2) (paf_cons (pf_var 4) paf_nil)))))) (fun _ _ _ _ _ => (pf_var 4))) paf_nil)))
    (pssf_one (psf_ret pf_bl))
    pssf_nil)
    (pssf_cons (psf_if (PwF.pt (pw_or (pt_cmp (o_ne c0.hu) (pf_call c0 (ok_depth T) (by omega) (paf_cons (pf_var 2) paf_nil)) (pf_call c0 (okq__law_depth T) (by omega) (paf_cons (pf_var 2) paf_nil))) (pw_or (pt_cmp o_gt (pf_call c0 (ok_depth T) (by omega) (paf_cons (pf_var 2) paf_nil)) pf_int) (pw_or1 (pt_cmp (o_ne c0.hu) (pf_call c0 (ok_found_among T) (by omega) (paf_cons (pf_var 2) (paf_cons (pf_tup paf_nil) paf_nil))) (pf_tup paf_nil))))))
    (pssf_one (psf_ret pf_bl))
    pssf_nil)
    (pssf_cons (psf_par2 5 6 c0.calm c0.nd (paf_cons (pf_call c0 (okq__law_question T) (by omega) (paf_cons (pf_var 0) (paf_cons (pf_var 1) (paf_cons pf_int paf_nil)))) (paf_cons (pf_call c0 (okq__law_question T) (by omega) (paf_cons (pf_var 0) (paf_cons (pf_var 1) (paf_cons pf_int paf_nil)))) paf_nil)))
    (pssf_cons (psf_for c0.own c0.calm (pi_val (pf_var 3)) (pg_nm 4 c0.nd)
    (pssf_cons (psf_set 7 c0.nd (pf_lst (paf_cons (pf_call c0 (ok_finds T) (by omega) (paf_cons (pf_var 5) (paf_cons (pf_var 4) paf_nil))) (paf_cons (pf_call c0 (ok_finds T) (by omega) (paf_cons (pf_var 6) (paf_cons (pf_var 4) paf_nil))) paf_nil))))
    (pssf_cons (psf_if (PwF.pt (pw_or (pt_cmp (o_ne c0.hu) (pf_call c0 (ok_finds T) (by omega) (paf_cons (pf_tup (paf_cons (pf_str (by decide +kernel)) (paf_cons (pf_var 5) (paf_cons (pf_var 6) paf_nil)))) (paf_cons (pf_var 4) paf_nil))) (pf_cmp (o_eq c0.hu) (pf_var 7) (pf_lst (paf_cons pf_bl (paf_cons pf_bl paf_nil))))) (pw_or1 (pt_cmp (o_eq c0.hu) (pf_call c0 (ok_finds T) (by omega) (paf_cons (pf_tup (paf_cons (pf_str (by decide +kernel)) (paf_cons (pf_var 5) paf_nil))) (paf_cons (pf_var 4) paf_nil))) (pf_ix (pf_var 7) pf_int)))))
    (pssf_one (psf_ret pf_bl))
    pssf_nil)
    (pssf_one (psf_if (pt_cmp (o_ne c0.hu) (pf_call c0 (ok_finds T) (by omega) (paf_cons (pf_tup (paf_cons (pf_str (by decide +kernel)) (paf_cons (pf_var 5) (paf_cons (pf_var 6) paf_nil)))) (paf_cons (pf_var 4) paf_nil))) (pf_cmp (o_in c0.hu) pf_bl (pf_var 7)))
    (pssf_one (psf_ret pf_bl))
    pssf_nil)))))
    (pssf_cons (psf_par2 8 9 c0.calm c0.nd (paf_cons (pf_call c0 (ok__law_word T) (by omega) (paf_cons (pf_var 0) (paf_cons (pf_var 1) paf_nil))) (paf_cons (pf_call c0 (ok__law_word T) (by omega) (paf_cons (pf_var 0) (paf_cons (pf_var 1) paf_nil))) paf_nil)))
    (pssf_cons (psf_for c0.own c0.calm (pi_val (pf_var 3)) (pg_nm 4 c0.nd)
    (pssf_cons (psf_if (pt_cmp (o_ne c0.hu) (pf_call c0 (ok_finds T) (by omega) (paf_cons (pf_tup (paf_cons (pf_str (by decide +kernel)) (paf_cons (pf_var 8) (paf_cons (pf_var 9) (paf_cons pf_int paf_nil))))) (paf_cons (pf_var 4) paf_nil))) (pf_call c0 (ok_finds T) (by omega) (paf_cons (pf_tup (paf_cons (pf_str (by decide +kernel)) (paf_cons (pf_tup (paf_cons (pf_str (by decide +kernel)) (paf_cons (pf_var 8) (paf_cons (pf_var 9) (paf_cons pf_int paf_nil))))) (paf_cons (pf_tup (paf_cons (pf_str (by decide +kernel)) (paf_cons (pf_var 9) (paf_cons (pf_var 8) (paf_cons pf_int paf_nil))))) paf_nil)))) (paf_cons (pf_var 4) paf_nil))))
    (pssf_one (psf_ret pf_bl))
    pssf_nil)
    (pssf_one (psf_if (pt_cmp (o_ne c0.hu) (pf_call c0 (ok_finds T) (by omega) (paf_cons (pf_tup (paf_cons (pf_str (by decide +kernel)) (paf_cons (pf_bin o_add (pf_var 8) (pf_var 9)) paf_nil))) (paf_cons (pf_var 4) paf_nil))) (pf_call c0 (ok_finds T) (by omega) (paf_cons (pf_tup (paf_cons (pf_str (by decide +kernel)) (paf_cons (pf_var 8) (paf_cons (pf_var 9) (paf_cons pf_int paf_nil))))) (paf_cons (pf_var 4) paf_nil))))
    (pssf_one (psf_ret pf_bl))
    pssf_nil))))
    (pssf_one (psf_ret pf_bl))))))))))))
end
end WF

set_option linter.all false
set_option maxRecDepth 100000
/-! # MWp: weakest conditions for denotations -/
namespace WF
section
variable {α β : Type}
def Wp (r : Res α) (P : α → Store → Prop) (E : Nat → Store → Prop) : Prop := match r with
  | .ok a S => P a S
  | .ex c S => E c S
  | .un => False
variable {P : α → Store → Prop} {E : Nat → Store → Prop}
theorem Wp.imp {r : Res α} {P' : α → Store → Prop} (h : Wp r P E) (f : ∀ a S, P a S → P' a S) : Wp r P' E := by
  cases r with
  | ok a S => exact f a S h
  | ex c S => exact h
  | un => exact h
theorem Wp.exc {r : Res α} {E' : Nat → Store → Prop} (h : Wp r P E) (f : ∀ c S, E c S → E' c S) : Wp r P E' := by
  cases r with
  | ok a S => exact h
  | ex c S => exact f c S h
  | un => exact h
theorem wp_eq {r : Res α} {a : α} {S : Store} (h : r = .ok a S) (q : P a S) : Wp r P E := by rw [h]; exact q
theorem wp_eqx {r : Res α} {c : Nat} {S : Store} (h : r = .ex c S) (q : E c S) : Wp r P E := by rw [h]; exact q
theorem Wp.ex {r : Res α} (h : Wp r P fun _ _ => False) : ∃ a S, r = .ok a S ∧ P a S := by
  cases r with
  | ok a S => exact ⟨a, S, rfl, h⟩
  | ex c S => exact h.elim
  | un => exact h.elim
theorem wp_bind {r : Res β} {f : β → Store → Res α} (h : Wp r (fun a S => Wp (f a S) P E) E) : Wp (r.bind f) P E := by
  cases r <;> exact h
theorem wp_noex {r : Res α} (h : Wp r P fun _ _ => False) : Wp r.noex P E := by
  cases r with
  | ok a S => exact h
  | ex c S => exact h.elim
  | un => exact h.elim
end
section
variable {P : D → Store → Prop} {PL : List D → Store → Prop} {PB : Bool → Store → Prop} {PC : Ctl → Store → Prop} {PG : Env → Store → Prop} {PI : List D × Option Nat → Store → Prop} {PO : Option Int → Store → Prop} {E : Nat → Store → Prop} {ρ : Env} {S : Store} {a b c : FE} {t u : FT} {F G : FS}
theorem w_var {i : Nat} {d : D} (h : ρ[i]? = some (some d)) (q : P d S) : Wp (dVar i ρ S) P E := wp_eq (by unfold dVar; rw [h]) q
theorem w_c {d : D} (q : P d S) : Wp (dC d ρ S) P E := q
theorem w_un {g : D → M D} (h : Wp (a ρ S) (fun x S1 => Wp (g x S1) P E) E) : Wp (dUn g a ρ S) P E := wp_bind h
theorem w_bin {g : D → D → M D} (h : Wp (a ρ S) (fun x S1 => Wp (b ρ S1) (fun y S2 => Wp (g x y S2) P E) E) E) : Wp (dBin g a b ρ S) P E := wp_bind (h.imp fun _ _ h => wp_bind h)
theorem w_strM {g : D → D → M D} (h : Wp (a ρ S) (fun x S1 => ∃ s, x = .str s ∧ Wp (b ρ S1) (fun y S2 => Wp (g (.str s) y S2) P E) E) E) : Wp (dStrM g a b ρ S) P E :=
  wp_bind (h.imp fun x _ ⟨s, e, h⟩ => by subst e; exact wp_bind h)
theorem w_and (h : Wp (a ρ S) (fun x S1 => ∃ k, x = .bl k ∧ (k = true → Wp (b ρ S1) P E) ∧ (k = false → P (.bl false) S1)) E) : Wp (dAnd a b ρ S) P E :=
  wp_bind (h.imp fun x _ ⟨k, e, h1, h2⟩ => by
    subst e
    cases k with
    | true => exact h1 rfl
    | false => exact h2 rfl)
theorem w_or (h : Wp (a ρ S) (fun x S1 => ∃ k, x = .bl k ∧ (k = false → Wp (b ρ S1) P E) ∧ (k = true → P (.bl true) S1)) E) : Wp (dOr a b ρ S) P E :=
  wp_bind (h.imp fun x _ ⟨k, e, h1, h2⟩ => by
    subst e
    cases k with
    | false => exact h1 rfl
    | true => exact h2 rfl)
theorem w_not (h : Wp (a ρ S) (fun x S1 => ∃ k, x = .bl k ∧ P (.bl (!k)) S1) E) : Wp (dNot a ρ S) P E :=
  wp_bind (h.imp fun x _ ⟨k, e, h⟩ => by subst e; exact h)
theorem w_ite (h : Wp (t ρ S) (fun k S1 => (k = true → Wp (a ρ S1) P E) ∧ (k = false → Wp (b ρ S1) P E)) E) : Wp (dIf t a b ρ S) P E :=
  wp_bind (h.imp fun k _ h => by
    cases k with
    | true => exact h.1 rfl
    | false => exact h.2 rfl)
theorem w_chain {g g' : D → D → M D} (h : Wp (a ρ S) (fun x S1 => Wp (b ρ S1) (fun y S2 => Wp (g x y S2) (fun z S3 => ∃ k, z = .bl k ∧ (k = true → Wp (c ρ S3) (fun u S4 => Wp (g' y u S4) P E) E) ∧ (k = false → P (.bl false) S3)) E) E) E) : Wp (dChain g g' a b c ρ S) P E :=
  wp_bind (h.imp fun _ _ h => wp_bind (h.imp fun _ _ h => wp_bind (h.imp fun z _ ⟨k, e, h1, h2⟩ => by
    subst e
    cases k with
    | true => exact wp_bind (h1 rfl)
    | false => exact h2 rfl)))
theorem w_all0 (h : PL [] S) : Wp (evalAll [] ρ S) PL E := h
theorem w_all1 {r : List FE} (h : Wp (a ρ S) (fun x S1 => Wp (evalAll r ρ S1) (fun xs S2 => PL (x :: xs) S2) E) E) : Wp (evalAll (a :: r) ρ S) PL E := wp_bind (h.imp fun _ _ h => wp_bind h)
theorem w_tup {r : List FE} (h : Wp (evalAll r ρ S) (fun xs S1 => P (.tup xs) S1) E) : Wp (dTup r ρ S) P E := wp_bind h
theorem w_lst {r : List FE} (h : Wp (evalAll r ρ S) (fun xs S1 => P (.lst xs) S1) E) : Wp (dLst r ρ S) P E := wp_bind h
theorem w_call {f : FF} {r : List FE} (h : Wp (evalAll r ρ S) (fun xs S1 => Wp (f xs S1) P E) E) : Wp (dCall f r ρ S) P E := wp_bind h
theorem w_f1 {g : D → M D} {x : D} (h : Wp (g x S) P E) : Wp (f1 g [x] S) P E := h
theorem w_f2 {g : D → D → M D} {x y : D} (h : Wp (g x y S) P E) : Wp (f2 g [x, y] S) P E := h
theorem w_part (h : Wp (a ρ S) (fun x S1 => ∃ i, x = .int i ∧ PO (some i) S1) E) : Wp (dPart a ρ S) PO E :=
  wp_bind (h.imp fun x _ ⟨k, e, h⟩ => by subst e; exact h)
theorem w_noPart (h : PO none S) : Wp (dNoPart ρ S) PO E := h
theorem w_slice {lo hi : Env → M (Option Int)} (h : Wp (a ρ S) (fun x S1 => Wp (lo ρ S1) (fun l S2 => Wp (hi ρ S2) (fun h S3 => Wp (gSlice x l h S3) P E) E) E) E) : Wp (dSlice a lo hi ρ S) P E :=
  wp_bind (h.imp fun _ _ h => wp_bind (h.imp fun _ _ h => wp_bind h))
theorem w_catNew (h : Wp (a ρ S) (fun x S1 => Wp (b ρ S1) (fun y S2 => ∃ xs ys, x = .lst xs ∧ y = .lst ys ∧ xs.length + ys.length ≤ lim ∧ P (.loc S2.length) (S2 ++ [.lst (xs ++ ys)])) E) E) : Wp (dCatNew a b ρ S) P E :=
  wp_bind (h.imp fun _ _ h => wp_bind (h.imp fun _ _ ⟨xs, ys, e1, e2, hl, h5⟩ => by subst e1 e2; dsimp only; rw [if_pos hl]; exact h5))
theorem w_new {r : List FE} (h : Wp (evalAll r ρ S) (fun xs S1 => P (.loc S1.length) (S1 ++ [.lst xs])) E) : Wp (dNew r ρ S) P E := wp_bind h
theorem w_pick {ks : List Cs} {r : List FE} (h : Wp (evalAll r ρ S) (fun ds S1 => Wp (a ρ S1) (fun x S2 => ∃ s d, x = .str s ∧ (ks.zip ds).lookup s = some d ∧ P d S2) E) E) : Wp (dPick ks r a ρ S) P E :=
  wp_bind (h.imp fun _ _ h => wp_bind (h.imp fun _ _ ⟨s, d, e, e2, h⟩ => by subst e; simp only [e2]; exact h))
/-! tests -/
theorem w_tv (h : Wp (a ρ S) (fun x S1 => ∃ k, x = .bl k ∧ PB k S1) E) : Wp (tVal a ρ S) PB E :=
  wp_bind (h.imp fun x _ ⟨k, e, h⟩ => by subst e; exact h)
theorem w_tand (h : Wp (t ρ S) (fun k S1 => (k = true → Wp (u ρ S1) PB E) ∧ (k = false → PB false S1)) E) : Wp (tAnd t u ρ S) PB E :=
  wp_bind (h.imp fun k _ h => by
    cases k with
    | true => exact h.1 rfl
    | false => exact h.2 rfl)
theorem w_tor (h : Wp (t ρ S) (fun k S1 => (k = false → Wp (u ρ S1) PB E) ∧ (k = true → PB true S1)) E) : Wp (tOr t u ρ S) PB E :=
  wp_bind (h.imp fun k _ h => by
    cases k with
    | true => exact h.2 rfl
    | false => exact h.1 rfl)
theorem w_tnot (h : Wp (t ρ S) (fun k S1 => PB (!k) S1) E) : Wp (tNot t ρ S) PB E := wp_bind h
theorem w_tyes (h : PB true S) : Wp (tYes ρ S) PB E := h
/-! what is walked -/
theorem w_iv (h : Wp (a ρ S) (fun x S1 => ∃ ds, (x = .lst ds ∨ x = .tup ds ∨ ∃ s, x = .str s ∧ s.length ≤ lim ∧ ds = signs s) ∧ PI (ds, none) S1) E) : Wp (iVal a ρ S) PI E :=
  wp_bind (h.imp fun x _ ⟨ds, e, h⟩ => by
    rcases e with e | e | ⟨s, e, hl, e2⟩
    · subst e; exact h
    · subst e; exact h
    · subst e e2; dsimp only; rw [if_pos hl]; exact h)
theorem w_r1 (h : Wp (a ρ S) (fun x S1 => ∃ n : Int, x = .int n ∧ -16777216 ≤ n ∧ n ≤ 16777216 ∧ PI (rngD 0 n.toNat, none) S1) E) : Wp (iRange1 a ρ S) PI E :=
  wp_bind (h.imp fun x _ ⟨n, e, h1, h2, h⟩ => by subst e; dsimp only; rw [if_pos ⟨h1, h2⟩]; exact h)
theorem w_r2 (h : Wp (a ρ S) (fun x S1 => Wp (b ρ S1) (fun y S2 => ∃ m n : Int, x = .int m ∧ y = .int n ∧ (-16777216 ≤ m ∧ m ≤ 16777216 ∧ -16777216 ≤ n ∧ n ≤ 16777216 ∧ n - m ≤ 16777216) ∧ PI (rngD m (n - m).toNat, none) S2) E) E) : Wp (iRange2 a b ρ S) PI E :=
  wp_bind (h.imp fun x _ h => wp_bind (h.imp fun y _ ⟨m, n, e, e2, h1, h5⟩ => by subst e e2; dsimp only; rw [if_pos h1]; exact h5))
theorem w_en (h : Wp (a ρ S) (fun x S1 => ∃ s, x = .str s ∧ s.length ≤ lim ∧ PI (enumFrom 0 (signs s), none) S1) E) : Wp (iEnum a ρ S) PI E :=
  wp_bind (h.imp fun x _ ⟨n, e, h1, h⟩ => by subst e; dsimp only; rw [if_pos h1]; exact h)
/-! targets -/
theorem w_gn {i : Nat} {d : D} (h : PG (ρ.set i (some d)) S) : Wp (gName i d ρ S) PG E := h
theorem w_gt {gs : List FG} {ds : List D} (hl : ds.length = gs.length) (h : Wp (gAll gs ds ρ S) PG E) : Wp (gTup gs (.tup ds) ρ S) PG E := by
  show Wp (if ds.length = gs.length then gAll gs ds ρ S else .un) PG E
  rw [if_pos hl]; exact h
theorem w_ga0 (h : PG ρ S) : Wp (gAll [] [] ρ S) PG E := h
theorem w_ga1 {g : FG} {gs : List FG} {d : D} {ds : List D} (h : Wp (g d ρ S) (fun ρ1 S1 => Wp (gAll gs ds ρ1 S1) PG E) E) : Wp (gAll (g :: gs) (d :: ds) ρ S) PG E := wp_bind h
theorem w_gs {d : D} (h : Wp (a ρ S) (fun x S1 => Wp (b ρ S1) (fun y S2 => Wp (setAt x y d S2) (fun _ S3 => PG ρ S3) E) E) E) : Wp (gSubL a b d ρ S) PG E :=
  wp_bind (h.imp fun _ _ h => wp_bind (h.imp fun _ _ h => wp_bind h))
/-! statements -/
/-- after a statement: go on, or end -/
def Nx (K : Env → Store → Prop) (PC : Ctl → Store → Prop) (c : Ctl) (S : Store) : Prop := match c with
  | .next ρ => K ρ S
  | c => PC c S
theorem nx_next {K : Env → Store → Prop} (h : K ρ S) : Nx K PC (.next ρ) S := h
theorem nx_ret {K : Env → Store → Prop} {d : D} (h : PC (.ret d) S) : Nx K PC (.ret d) S := h
theorem w_nil (h : PC (.next ρ) S) : Wp (sNil ρ S) PC E := h
theorem w_seq (h : Wp (F ρ S) (Nx (fun ρ1 S1 => Wp (G ρ1 S1) PC E) PC) E) : Wp (sSeq F G ρ S) PC E :=
  wp_bind (h.imp fun c _ h => by cases c <;> exact h)
theorem w_asg {g : FG} (h : Wp (a ρ S) (fun d S1 => Wp (g d ρ S1) (fun ρ1 S2 => PC (.next ρ1) S2) E) E) : Wp (sAsg a g ρ S) PC E := wp_bind (h.imp fun _ _ h => wp_bind h)
theorem w_par {is : List Nat} {r : List FE} (h : Wp (evalAll r ρ S) (fun ds S1 => PC (.next (setAll is ds ρ)) S1) E) : Wp (sPar is r ρ S) PC E := wp_bind h
theorem w_aug {g : D → D → M D} {i : Nat} {x : D} (hx : ρ[i]? = some (some x)) (h : Wp (a ρ S) (fun y S1 => Wp (g x y S1) (fun z S2 => PC (.next (ρ.set i (some z))) S2) E) E) : Wp (sAug g i a ρ S) PC E := by
  unfold sAug
  simp only [hx]
  exact wp_bind (h.imp fun _ _ h => wp_bind h)
theorem w_expr (h : Wp (a ρ S) (fun _ S1 => PC (.next ρ) S1) E) : Wp (sExpr a ρ S) PC E := wp_bind h
theorem w_ret (h : Wp (a ρ S) (fun d S1 => PC (.ret d) S1) E) : Wp (sRet a ρ S) PC E := wp_bind h
theorem w_if (h : Wp (t ρ S) (fun k S1 => (k = true → Wp (F ρ S1) PC E) ∧ (k = false → Wp (G ρ S1) PC E)) E) : Wp (sIf t F G ρ S) PC E :=
  wp_bind (h.imp fun k _ h => by
    cases k with
    | true => exact h.1 rfl
    | false => exact h.2 rfl)
theorem w_ifs (ht : Wp (t ρ S) (fun _ S1 => S1 = S) E) (h1 : Wp (F ρ S) PC E) (h2 : Wp (G ρ S) PC E) : Wp (sIf t F G ρ S) PC E :=
  wp_bind (ht.imp fun k S1 h => by
    subst h
    cases k with
    | true => exact h1
    | false => exact h2)
theorem w_brk (h : PC (.brk ρ) S) : Wp (sBrk ρ S) PC E := h
theorem w_cnt (h : PC (.cnt ρ) S) : Wp (sCnt ρ S) PC E := h
theorem w_raise {c : Nat} (h : E c S) : Wp (sRaise c ρ S) PC E := h
theorem w_run {n : Nat} {ds : List D} (h : Wp (F (startE n ds) S) (fun c S1 => match c with
    | .ret d => P d S1
    | .next _ => P .non S1
    | _ => False) E) : Wp (runDef n F ds S) P E :=
  wp_bind (h.imp fun c _ h => by cases c <;> exact h)
/-- a loop, by an invariant of the items that are left -/
theorem w_forL {g : FG} (I : List D → Env → Store → Prop) {ds : List D} (h0 : I ds ρ S) (hn : ∀ ρ S, I [] ρ S → PC (.next ρ) S)
    (hs : ∀ d ds ρ S, I (d :: ds) ρ S → Wp (g d ρ S) (fun ρ1 S1 => Wp (F ρ1 S1) (fun c S2 => match c with
      | .next ρ2 => I ds ρ2 S2
      | .cnt ρ2 => I ds ρ2 S2
      | .brk ρ2 => PC (.next ρ2) S2
      | .ret d => PC (.ret d) S2) E) E) : Wp (forL g F ds ρ S) PC E := by
  induction ds generalizing ρ S with
  | nil => exact hn ρ S h0
  | cons d ds ih =>
    refine wp_bind ((hs d ds ρ S h0).imp fun ρ1 S1 h => wp_bind (h.imp fun c S2 h => ?_))
    cases c with
    | next ρ2 => exact ih h
    | cnt ρ2 => exact ih h
    | brk ρ2 => exact h
    | ret d => exact h
theorem w_for {it : FI} {g : FG} (h : Wp (it ρ S) (fun p S1 => p.2 = none ∧ Wp (forL g F p.1 ρ S1) PC E) E) : Wp (sFor it g F ρ S) PC E :=
  wp_bind (h.imp fun p _ ⟨e, h⟩ => by
    obtain ⟨ds, w⟩ := p
    subst e
    exact h)
/-! comprehensions -/
theorem compL_pure {g : FG} {vs : List Nat} {e : FE} (k : D → Bool) (f : D → D) : ∀ {ds : List D}, (∀ d ∈ ds, ∃ ρ1, g d (wipe ρ vs) S = .ok ρ1 S ∧ t ρ1 S = .ok (k d) S ∧ (k d = true → e ρ1 S = .ok (f d) S)) →
    compL g vs t e ρ ds S = .ok ((ds.filter k).map f) S
  | [], _ => rfl
  | d :: ds, h => by
    obtain ⟨ρ1, h1, h2, h3⟩ := h d (List.mem_cons_self ..)
    unfold compL
    rw [h1]
    simp only [Res.ok_noex, Res.ok_bind, h2]
    have ih := compL_pure (g := g) (vs := vs) (e := e) k f (ds := ds) fun d' hd => h d' (List.mem_cons_of_mem _ hd)
    cases hk : k d with
    | true =>
      simp only [if_true, h3 hk, Res.ok_noex, Res.ok_bind, ih, List.filter_cons, hk, List.map_cons]
    | false =>
      simp only [Bool.false_eq_true, if_false, ih, List.filter_cons, hk]
theorem comp_pure {it : FI} {g : FG} {vs : List Nat} {e : FE} {ds : List D} (k : D → Bool) (f : D → D) (hi : it ρ S = .ok (ds, none) S) (hl : ds.length ≤ lim) (h : ∀ d ∈ ds, ∃ ρ1, g d (wipe ρ vs) S = .ok ρ1 S ∧ t ρ1 S = .ok (k d) S ∧ (k d = true → e ρ1 S = .ok (f d) S)) :
    dComp it g vs t e ρ S = .ok (.lst ((ds.filter k).map f)) S := by
  unfold dComp
  rw [hi]
  simp only [Res.ok_bind, if_pos hl]
  rw [compL_pure k f h]
  rfl
/-- each item by an invariant of the number of turns that are left -/
theorem w_compL {g : FG} {vs : List Nat} {e : FE} (I : Nat → Store → Prop) (Q : D → Prop) : ∀ {ds : List D} {S : Store}, I ds.length S →
    (∀ d n S, I (n + 1) S → Wp (g d (wipe ρ vs) S) (fun ρ1 S1 => Wp (e ρ1 S1) (fun y S2 => Q y ∧ I n S2) fun _ _ => False) fun _ _ => False) →
    Wp (compL g vs tYes e ρ ds S) (fun ys S1 => ys.length = ds.length ∧ (∀ y ∈ ys, Q y) ∧ I 0 S1) E
  | [], S, h, _ => ⟨rfl, fun y hy => by simp at hy, h⟩
  | d :: ds, S, h, hs => by
    unfold compL
    refine wp_bind (wp_noex ((hs d ds.length S h).imp fun ρ1 S1 h1 => ?_))
    show Wp (Res.bind (e ρ1 S1).noex _) _ _
    refine wp_bind (wp_noex (h1.imp fun y S2 h2 => ?_))
    refine wp_bind ((w_compL I Q h2.2 hs).imp fun ys S3 h3 => ?_)
    refine ⟨by simp [h3.1], fun z hz => ?_, h3.2.2⟩
    rcases List.mem_cons.mp hz with e | e
    · rw [e]; exact h2.1
    · exact h3.2.1 z e
theorem w_comp {it : FI} {g : FG} {vs : List Nat} {e : FE} (h : Wp (it ρ S) (fun p S1 => p.2 = none ∧ p.1.length ≤ lim ∧ Wp (compL g vs t e ρ p.1 S1) (fun ys S2 => P (.lst ys) S2) E) E) : Wp (dComp it g vs t e ρ S) P E :=
  wp_bind (h.imp fun p _ ⟨e, hl, h⟩ => by
    obtain ⟨ds, w⟩ := p
    subst e
    rw [if_pos hl]
    exact wp_bind h)
end
/-- one step of straight-line code -/
theorem c_tt {A B : Prop} (h : A) : (true = true → A) ∧ (true = false → B) := ⟨fun _ => h, fun z => nomatch z⟩
theorem c_ff {A B : Prop} (h : B) : (false = true → A) ∧ (false = false → B) := ⟨fun z => (nomatch z), fun _ => h⟩
theorem c_ot {A B : Prop} (h : B) : (true = false → A) ∧ (true = true → B) := ⟨fun z => (nomatch z), fun _ => h⟩
theorem c_of {A B : Prop} (h : A) : (false = false → A) ∧ (false = true → B) := ⟨fun _ => h, fun z => nomatch z⟩
end WF
local macro_rules | `(tactic| walk_at "wf one") => `(tactic| first
  | with_reducible refine WF.w_seq ?_ | with_reducible refine WF.w_asg ?_ | with_reducible refine WF.w_par ?_ | with_reducible refine WF.w_ret ?_ | with_reducible refine WF.w_if ?_ | with_reducible refine WF.w_expr ?_ | with_reducible refine WF.w_nil ?_
  | with_reducible refine WF.nx_next ?_ | with_reducible refine WF.nx_ret ?_
  | with_reducible refine WF.w_c ?_ | with_reducible refine WF.w_un ?_ | with_reducible refine WF.w_bin ?_ | with_reducible refine WF.w_call ?_ | with_reducible refine WF.w_tup ?_ | with_reducible refine WF.w_lst ?_ | with_reducible refine WF.w_all0 ?_ | with_reducible refine WF.w_all1 ?_
  | with_reducible refine WF.w_and ?_ | with_reducible refine WF.w_or ?_ | with_reducible refine WF.w_not ?_ | with_reducible refine WF.w_ite ?_ | with_reducible refine WF.w_chain ?_ | with_reducible refine WF.w_strM ?_ | with_reducible refine WF.w_pick ?_
  | with_reducible refine WF.w_part ?_ | with_reducible refine WF.w_noPart ?_ | with_reducible refine WF.w_slice ?_ | with_reducible refine WF.w_catNew ?_ | with_reducible refine WF.w_new ?_
  | with_reducible refine WF.w_f1 ?_ | with_reducible refine WF.w_f2 ?_
  | with_reducible refine WF.w_tv ?_ | with_reducible refine WF.w_tand ?_ | with_reducible refine WF.w_tor ?_ | with_reducible refine WF.w_tnot ?_ | with_reducible refine WF.w_tyes ?_
  | with_reducible refine WF.w_iv ?_ | with_reducible refine WF.w_r1 ?_ | with_reducible refine WF.w_r2 ?_ | with_reducible refine WF.w_en ?_
  | with_reducible refine WF.w_gn ?_ | with_reducible refine WF.w_ga0 ?_ | with_reducible refine WF.w_ga1 ?_ | with_reducible refine WF.w_gs ?_ | with_reducible refine WF.w_comp ?_ | with_reducible refine WF.w_for ?_ | with_reducible refine WF.w_raise ?_
  | ((with_reducible apply WF.w_var); focus rfl))
local macro_rules | `(tactic| walk_at "wf one0") => `(tactic| first
  | with_reducible refine WF.w_seq ?_ | with_reducible refine WF.w_asg ?_ | with_reducible refine WF.w_par ?_ | with_reducible refine WF.w_ret ?_ | with_reducible refine WF.w_if ?_ | with_reducible refine WF.w_expr ?_ | with_reducible refine WF.w_nil ?_
  | with_reducible refine WF.nx_next ?_ | with_reducible refine WF.nx_ret ?_
  | with_reducible refine WF.w_c ?_ | with_reducible refine WF.w_un ?_ | with_reducible refine WF.w_bin ?_ | with_reducible refine WF.w_call ?_ | with_reducible refine WF.w_tup ?_ | with_reducible refine WF.w_lst ?_ | with_reducible refine WF.w_all0 ?_ | with_reducible refine WF.w_all1 ?_
  | with_reducible refine WF.w_and ?_ | with_reducible refine WF.w_or ?_ | with_reducible refine WF.w_not ?_ | with_reducible refine WF.w_ite ?_ | with_reducible refine WF.w_chain ?_ | with_reducible refine WF.w_strM ?_ | with_reducible refine WF.w_pick ?_
  | with_reducible refine WF.w_part ?_ | with_reducible refine WF.w_noPart ?_ | with_reducible refine WF.w_slice ?_ | with_reducible refine WF.w_catNew ?_ | with_reducible refine WF.w_new ?_
  | with_reducible refine WF.w_f1 ?_ | with_reducible refine WF.w_f2 ?_
  | with_reducible refine WF.w_tv ?_ | with_reducible refine WF.w_tand ?_ | with_reducible refine WF.w_tor ?_ | with_reducible refine WF.w_tnot ?_ | with_reducible refine WF.w_tyes ?_
  | with_reducible refine WF.w_iv ?_ | with_reducible refine WF.w_r1 ?_ | with_reducible refine WF.w_r2 ?_ | with_reducible refine WF.w_en ?_
  | with_reducible refine WF.w_gn ?_ | with_reducible refine WF.w_ga0 ?_ | with_reducible refine WF.w_ga1 ?_ | with_reducible refine WF.w_gs ?_ | with_reducible refine WF.w_raise ?_
  | ((with_reducible refine WF.w_gt ?hl ?_); focus rfl)
  | ((with_reducible apply WF.w_var); focus rfl))
local macro_rules | `(tactic| walk_at "wf all") => `(tactic| repeat walk_at "wf one")
local macro_rules | `(tactic| walk_at "wf op") => `(tactic| (refine WF.wp_eq rfl ?_; walk_at "wf all"))
local macro_rules | `(tactic| walk_at "wf bool") => `(tactic| first
  | with_reducible refine WF.c_tt ?_ | with_reducible refine WF.c_ff ?_ | with_reducible refine WF.c_ot ?_ | with_reducible refine WF.c_of ?_
  | refine WF.c_tt ?_ | refine WF.c_ff ?_ | refine WF.c_ot ?_ | refine WF.c_of ?_
  | refine ⟨true, rfl, ?_⟩ | refine ⟨false, rfl, ?_⟩ | refine ⟨_, _, rfl, rfl, ?_⟩ | refine ⟨_, rfl, ?_⟩)
local macro_rules | `(tactic| walk_at "wf go") => `(tactic| repeat (first | walk_at "wf one" | walk_at "wf bool" | refine WF.wp_eq rfl ?_))
local macro_rules | `(tactic| walk_at "wf go0") => `(tactic| repeat (first | walk_at "wf one0" | walk_at "wf bool" | refine WF.wp_eq rfl ?_))

set_option linter.all false
set_option maxRecDepth 100000
/-! # MDraw: the town's draws, in plain Lean -/
namespace WF
/-- the town: the first object of the store; the counter has room for b further draws -/
def Tn (n b : Nat) (R S : Store) : Prop := ∃ (c : Int) (is : List Int), 0 ≤ c ∧ c + b ≤ 1000000000000 ∧ is.length = n ∧ S = .lst (.int c :: is.map .int) :: R
theorem Tn.mono {n a b : Nat} {R S : Store} (h : Tn n b R S) (hab : a ≤ b) : Tn n a R S := by
  obtain ⟨c, is, h1, h2, h3, h4⟩ := h
  exact ⟨c, is, h1, by omega, h3, h4⟩
theorem plains_int : ∀ ns : List Int, D.plains (ns.map D.int) = true
  | [] => rfl
  | n :: ns => by simp [D.plains, D.plain, plains_int ns]
theorem eqvs_int_nil (ns : List Int) : D.eqvs (ns.map D.int) [] = ns.isEmpty := by cases ns <;> rfl
theorem depths_int : ∀ ns : List Int, D.depths (ns.map D.int) = 0
  | [] => rfl
  | n :: ns => by simp [D.depths, D.depth, depths_int ns]
theorem eq_nil (ns : List Int) (S : Store) : gEq (.lst (ns.map .int)) (.lst []) S = .ok (.bl ns.isEmpty) S := by
  simp [gEq, res, D.plain, plains_int, D.plains, D.depth, depths_int, D.depths, D.eqv, eqvs_int_nil]
theorem atI_at {α : Type} {xs : List α} {i : Int} {d : α} (h0 : 0 ≤ i) (h : xs[i.toNat]? = some d) : atI xs i = some d := by
  have hl : i.toNat < xs.length := by
    rcases Nat.lt_or_ge i.toNat xs.length with z | z
    · exact z
    · rw [List.getElem?_eq_none z] at h; cases h
  unfold atI ixN
  rw [if_pos h0, if_pos (by omega)]
  exact h
theorem ixN_at {n : Nat} {i : Int} (h0 : 0 ≤ i) (h : i < n) : ixN n i = some i.toNat := by
  unfold ixN
  rw [if_pos h0, if_pos h]
theorem emod_lt {a m : Int} (h : 0 < m) : 0 ≤ a.fmod m ∧ a.fmod m < m := by
  rw [Int.fmod_eq_emod_of_nonneg _ (Int.le_of_lt h)]
  exact ⟨Int.emod_nonneg _ (by omega), Int.emod_lt_of_pos _ h⟩
theorem gMod_ok {a m : Int} {S : Store} (h : 0 < m) : gMod (.int a) (.int m) S = .ok (.int (a.fmod m)) S := by
  simp [gMod, show m ≠ 0 by omega]
theorem gFdiv_ok {a m : Int} {S : Store} (h : 0 < m) (h2 : m < 1073741824) : gFdiv (.int a) (.int m) S = .ok (.int (a.fdiv m)) S := by
  unfold gFdiv
  dsimp only
  rw [if_pos ⟨by omega, by omega⟩]
theorem gMul_ok {a b : Int} {S : Store} (h : (-two64 < a ∧ a < two64) ∨ (-two64 < b ∧ b < two64)) : gMul (.int a) (.int b) S = .ok (.int (a * b)) S := by
  unfold gMul
  dsimp only
  rw [if_pos h]
theorem gPow_ok {a b : Int} {S : Store} (h0 : 0 ≤ b) (h1 : b ≤ 1000) (h : 0 ≤ a) (h2 : a < 18446744073709551616) : gPow (.int a) (.int b) S = .ok (.int (a ^ b.toNat)) S := by
  unfold gPow
  dsimp only
  rw [if_pos ⟨h0, h1, by omega⟩]
theorem gAdd_ok {a b : Int} {S : Store} : gAdd (.int a) (.int b) S = .ok (.int (a + b)) S := rfl
theorem bLen_lst {ds : List D} {S : Store} : bLen (.lst ds) S = .ok (.int ds.length) S := rfl
theorem gIdx_lst {ds : List D} {i : Int} {S : Store} {d : D} (h0 : 0 ≤ i) (h : ds[i.toNat]? = some d) : gIdx (.lst ds) (.int i) S = .ok d S := by
  simp only [gIdx, res, atI_at h0 h]
theorem gIdx_loc {n : Nat} {ds : List D} {i : Int} {S : Store} {d : D} (hS : S[n]? = some (.lst ds)) (h0 : 0 ≤ i) (h : ds[i.toNat]? = some d) : gIdx (.loc n) (.int i) S = .ok d S := by
  simp only [gIdx, res, hS, atI_at h0 h]
theorem setAt_loc {n : Nat} {ds : List D} {i : Int} {S : Store} {v : D} (hS : S[n]? = some (.lst ds)) (h0 : 0 ≤ i) (h : i < ds.length) : setAt (.loc n) (.int i) v S = .ok () (S.set n (.lst (ds.set i.toNat v))) := by
  simp only [setAt, hS, ixN_at h0 h]

theorem draw_ok {ns : List Int} {b : Nat} {R S : Store} {P : D → Store → Prop} {E : Nat → Store → Prop} {m : Int} (h : Tn ns.length (b + 1) R S) (hm : 0 < m) (hb : m < 1000000)
    (q : ∀ r S', 0 ≤ r → r < m → Tn ns.length b R S' → P (.int r) S') : Wp (L_draw [.lst (ns.map .int), .loc 0, .int m] S) P E := by
  obtain ⟨c, is, h1, h2, h3, rfl⟩ := h
  have T' : ∀ is' : List Int, is'.length = ns.length → Tn ns.length b R (.lst (.int (c + 1) :: is'.map .int) :: R) := fun is' hl => ⟨c + 1, is', by omega, by omega, hl, rfl⟩
  have g0 : ∀ is' : List Int, gIdx (.loc 0) (.int 0) (.lst (.int (c + 1) :: is'.map .int) :: R) = .ok (.int (c + 1)) (.lst (.int (c + 1) :: is'.map .int) :: R) := fun is' => gIdx_loc (n := 0) rfl (by decide) rfl
  unfold L_draw
  refine w_run ?_
  walk_at "wf all"
  refine wp_eq (gIdx_loc (n := 0) rfl (by decide) rfl) ?_
  walk_at "wf all"
  walk_at "wf op"
  refine wp_eq (setAt_loc (n := 0) rfl (by decide) (by simp)) ?_
  walk_at "wf all"
  refine wp_eq (eq_nil ..) ?_
  refine ⟨_, rfl, ⟨fun hn => ?_, fun hn => ?_⟩⟩
  · walk_at "wf all"
    refine wp_eq (g0 is) ?_
    walk_at "wf all"
    refine wp_eq (g0 is) ?_
    refine wp_eq (gMul_ok (.inl ⟨by simp only [two64]; omega, by simp only [two64]; omega⟩)) ?_
    walk_at "wf all"
    refine wp_eq (gMul_ok (.inr ⟨by decide, by decide⟩)) ?_
    walk_at "wf all"
    refine wp_eq (gFdiv_ok (by decide) (by decide)) ?_
    walk_at "wf all"
    refine wp_eq (gMod_ok hm) ?_
    walk_at "wf all"
    exact q _ _ (emod_lt hm).1 (emod_lt hm).2 (T' is h3)
  · have hpos : 0 < ns.length := by
      cases ns with
      | nil => cases hn
      | cons _ _ => simp
    walk_at "wf all"
    refine wp_eq (g0 is) ?_
    walk_at "wf all"
    refine wp_eq (bLen_lst) ?_
    rw [List.length_map]
    have hlen : (0 : Int) < ((ns.length : Nat) : Int) := by omega
    refine wp_eq (gMod_ok hlen) ?_
    have hj := emod_lt (a := c + 1) hlen
    generalize hjj : Int.fmod (c + 1) ((ns.length : Nat) : Int) = j at hj ⊢
    obtain ⟨hj0, hj1⟩ := hj
    have hjn : j.toNat < is.length := by omega
    have hjn' : j.toNat < ns.length := by omega
    have e1 : (1 + j).toNat = j.toNat + 1 := by omega
    have g1 : gIdx (.loc 0) (.int (1 + j)) (.lst (.int (c + 1) :: is.map .int) :: R) = .ok (.int is[j.toNat]) (.lst (.int (c + 1) :: is.map .int) :: R) := by
      refine gIdx_loc (n := 0) rfl (by omega) ?_
      rw [e1, List.getElem?_cons_succ, List.getElem?_map, List.getElem?_eq_getElem hjn]
      rfl
    have g2 : ∀ T : Store, gIdx (.lst (ns.map .int)) (.int j) T = .ok (.int ns[j.toNat]) T := fun T => by
      refine gIdx_lst hj0 ?_
      rw [List.getElem?_map, List.getElem?_eq_getElem hjn']
      rfl
    walk_at "wf all"
    walk_at "wf op"
    refine wp_eq g1 ?_
    refine w_seq ?_
    refine w_ifs ?_ ?_ ?_
    · walk_at "wf all"
      refine wp_eq (g2 _) ?_
      walk_at "wf all"
      refine wp_eq (gPow_ok (by decide) (by decide) (by decide) (by decide)) ?_
      walk_at "wf op"
      refine ⟨_, rfl, fun _ => ?_, fun _ => rfl⟩
      walk_at "wf all"
      walk_at "wf op"
      exact ⟨_, rfl, rfl⟩
    · walk_at "wf all"
      refine wp_eq (gFdiv_ok hm (by omega)) ?_
      walk_at "wf all"
      walk_at "wf op"
      refine wp_eq (setAt_loc (n := 0) rfl (by omega) (by simp; omega)) ?_
      walk_at "wf all"
      refine wp_eq (gMod_ok hm) ?_
      walk_at "wf all"
      refine q _ _ (emod_lt hm).1 (emod_lt hm).2 ?_
      have := T' (is.set j.toNat (Int.fdiv is[j.toNat] m)) (by simp [h3])
      rw [e1]
      simpa [List.map_set] using this
    · walk_at "wf all"
      refine wp_eq (g2 _) ?_
      walk_at "wf all"
      refine wp_eq (g0 is) ?_
      refine wp_eq (gMul_ok (.inl ⟨by decide, by decide⟩)) ?_
      walk_at "wf op"
      refine wp_eq (gMod_ok (by decide)) ?_
      walk_at "wf all"
      have h5 := emod_lt (a := ns[j.toNat] + 104729 * (c + 1)) (m := 4294967291) (by decide)
      generalize Int.fmod (ns[j.toNat] + 104729 * (c + 1)) 4294967291 = x at h5 ⊢
      refine wp_eq (gPow_ok (by decide) (by decide) h5.1 (by omega)) ?_
      walk_at "wf all"
      refine wp_eq (gMod_ok (by decide)) ?_
      walk_at "wf all"
      refine wp_eq (gFdiv_ok (by decide) (by decide)) ?_
      walk_at "wf all"
      refine wp_eq (gMul_ok (.inr ⟨by decide, by decide⟩)) ?_
      walk_at "wf all"
      walk_at "wf op"
      refine wp_eq (gMod_ok (by decide)) ?_
      walk_at "wf all"
      refine wp_eq (gFdiv_ok (by decide) (by decide)) ?_
      walk_at "wf all"
      refine wp_eq (gMod_ok hm) ?_
      walk_at "wf all"
      exact q _ _ (emod_lt hm).1 (emod_lt hm).2 (T' is h3)
/-- a sign of the words -/
def okc (c : Nat) : Prop := c = 97 ∨ c = 98 ∨ c = 99 ∨ c = 100
section
variable {ns : List Int} {b : Nat} {R S : Store} {P : D → Store → Prop} {E : Nat → Store → Prop}
theorem pick_ok {ds : List D} (h : Tn ns.length (b + 1) R S) (h0 : 0 < ds.length) (hl : ds.length < 1000) (q : ∀ d S', d ∈ ds → Tn ns.length b R S' → P d S') : Wp (L_pick [.lst (ns.map .int), .loc 0, .lst ds] S) P E := by
  unfold L_pick
  refine w_run ?_
  walk_at "wf all"
  refine wp_eq bLen_lst ?_
  refine draw_ok h (by omega) (by omega) fun r S' h1 h2 h3 => ?_
  have hr : r.toNat < ds.length := by omega
  refine wp_eq (gIdx_lst (d := ds[r.toNat]) h1 (by simp [hr])) ?_
  exact q _ _ (List.getElem_mem hr) h3
theorem word_ok (h : Tn ns.length (b + 2) R S) (q : ∀ c S', okc c → Tn ns.length b R S' → P (.str [c]) S') : Wp (L_word [.lst (ns.map .int), .loc 0] S) P E := by
  unfold L_word
  refine w_run ?_
  walk_at "wf all"
  refine pick_ok h (by decide) (by decide) fun d S' hd h1 => ?_
  have hd' : ∃ m : Int, d = .int m ∧ 2 ≤ m ∧ m ≤ 4 := by
    simp at hd
    rcases hd with e | e | e
    · exact ⟨2, e, by decide, by decide⟩
    · exact ⟨3, e, by decide, by decide⟩
    · exact ⟨4, e, by decide, by decide⟩
  obtain ⟨m, rfl, hm, hm2⟩ := hd'
  refine draw_ok h1 (by omega) (by omega) fun r S' h2 h3 h4 => ?_
  have : r = 0 ∨ r = 1 ∨ r = 2 ∨ r = 3 := by omega
  rcases this with e | e | e | e <;> subst e
  · exact q 97 S' (.inl rfl) h4
  · exact q 98 S' (.inr (.inl rfl)) h4
  · exact q 99 S' (.inr (.inr (.inl rfl))) h4
  · exact q 100 S' (.inr (.inr (.inr rfl))) h4
theorem town_ok (ns : List Int) (hl : ns.length ≤ 63) (R : Store) (hR : R = []) (q : ∀ S', Tn ns.length 1000000000 R S' → P (.loc 0) S') : Wp (L_town [.lst (ns.map .int)] []) P E := by
  unfold L_town
  refine w_run ?_
  walk_at "wf all"
  refine wp_eq (show bList (.lst (ns.map .int)) [] = .ok (.lst (ns.map .int)) [] from rfl) ?_
  refine ⟨_, _, rfl, rfl, by simp [lim]; omega, ?_⟩
  exact q _ ⟨0, ns, by decide, by decide, rfl, by rw [hR]; rfl⟩
end
end WF

set_option linter.all false
set_option maxRecDepth 100000
/-! # MQ: questions, in plain Lean -/
namespace WF
abbrev sWord : Cs := [119, 111, 114, 100]
abbrev sBegin : Cs := [98, 101, 103, 105, 110]
abbrev sEnd : Cs := [101, 110, 100]
abbrev sRow : Cs := [114, 111, 119]
abbrev sNear : Cs := [110, 101, 97, 114]
abbrev sBefore : Cs := [98, 101, 102, 111, 114, 101]
abbrev sOften : Cs := [111, 102, 116, 101, 110]
abbrev sNot : Cs := [110, 111, 116]
abbrev sAnd : Cs := [97, 110, 100]
abbrev sOr : Cs := [111, 114]
inductive Q where
  | word (c : Nat)
  | begin (c : Nat)
  | end_ (c : Nat)
  | row (s : Cs)
  | near (v w : Nat) (g : Nat)
  | before (v w : Nat) (g : Nat)
  | often (c : Nat) (n : Nat)
  | not (p : Q)
  | and (p q : Q)
  | or (p q : Q)
def Q.enc : Q → D
  | .word c => .tup [.str sWord, .str [c]]
  | .begin c => .tup [.str sBegin, .str [c]]
  | .end_ c => .tup [.str sEnd, .str [c]]
  | .row s => .tup [.str sRow, .str s]
  | .near v w g => .tup [.str sNear, .str [v], .str [w], .int g]
  | .before v w g => .tup [.str sBefore, .str [v], .str [w], .int g]
  | .often c n => .tup [.str sOften, .str [c], .int n]
  | .not p => .tup [.str sNot, p.enc]
  | .and p q => .tup [.str sAnd, p.enc, q.enc]
  | .or p q => .tup [.str sOr, p.enc, q.enc]
def Q.depth : Q → Nat
  | .not p => p.depth + 1
  | .and p q => max p.depth q.depth + 1
  | .or p q => max p.depth q.depth + 1
  | _ => 1
/-- what the program takes for a question, but for its depth -/
def Q.wf : Q → Prop
  | .word c | .begin c | .end_ c => okc c
  | .row s => (∀ c ∈ s, okc c) ∧ 2 ≤ s.length ∧ s.length ≤ 3
  | .near v w g => okc v ∧ okc w ∧ g ≤ 2
  | .before v w g => okc v ∧ okc w ∧ g ≤ 2
  | .often c n => okc c ∧ 2 ≤ n ∧ n ≤ 3
  | .not p => p.wf
  | .and p q => p.wf ∧ q.wf
  | .or p q => p.wf ∧ q.wf
def Q.simple : Q → Prop
  | .not _ | .and _ _ | .or _ _ => False
  | _ => True
theorem Q.depth_pos (q : Q) : 1 ≤ q.depth := by cases q <;> simp [Q.depth]
theorem Q.simple_depth {q : Q} (h : q.simple) : q.depth = 1 := by cases q <;> first | rfl | exact h.elim
section
variable {ns : List Int} {b : Nat} {R S : Store} {P : D → Store → Prop} {E : Nat → Store → Prop}
theorem simple_ok (h : Tn ns.length (b + 8) R S) (k : ∀ (q : Q) S', q.wf → q.simple → Tn ns.length b R S' → P q.enc S') : Wp (L_simple [.lst (ns.map .int), .loc 0] S) P E := by
  unfold L_simple
  refine w_run ?_
  walk_at "wf all"
  refine draw_ok (b := b + 7) h (by omega) (by omega) fun r S' h2 h3 h4 => ?_
  walk_at "wf all"
  refine word_ok (b := b + 5) h4 fun v S' hv h4 => ?_
  walk_at "wf all"
  refine word_ok (b := b + 3) h4 fun w S' hw h4 => ?_
  walk_at "wf all"
  walk_at "wf op"
  refine ⟨_, rfl, fun e => ?_, fun e => ?_⟩
  · walk_at "wf all"
    walk_at "wf op"
    refine word_ok (b := b + 1) h4 fun x S' hx h5 => ?_
    walk_at "wf all"
    refine pick_ok h5 (by simp) (by simp) fun d S' hd h6 => ?_
    have hd' : ∃ s : Cs, d = .str s ∧ s.length ≤ 1 ∧ ∀ c ∈ s, okc c := by
      simp at hd
      rcases hd with e | e
      · exact ⟨[], e, by decide, by simp⟩
      · exact ⟨[x], e, by simp, by simpa using hx⟩
    obtain ⟨s, rfl, hs, hs2⟩ := hd'
    refine wp_eq (show gAdd (.str ([v] ++ [w])) (.str s) S' = .ok (.str ([v, w] ++ s)) S' from ?_) ?_
    · unfold gAdd
      dsimp only
      rw [if_pos (by simp [lim]; omega)]
      rfl
    exact k (.row ([v, w] ++ s)) S' ⟨by simp; exact ⟨hv, hw, hs2⟩, by simp, by simp; omega⟩ trivial (h6.mono (by omega))
  · walk_at "wf all"
    walk_at "wf op"
    refine ⟨_, rfl, fun e2 => ?_, fun e2 => ?_⟩
    · have e1 := of_decide_eq_false e
      have e3 := of_decide_eq_true e2
      have : r = 2 ∨ r = 3 := by omega
      rcases this with e | e <;> subst e
      · walk_at "wf all"
        walk_at "wf op"
        walk_at "wf op"
        refine draw_ok (b := b + 2) h4 (by omega) (by omega) fun r S' h2 h3 h4 => ?_
        walk_at "wf all"
        have := k (.near v w r.toNat) S' ⟨hv, hw, by omega⟩ trivial (h4.mono (by omega))
        simpa [Q.enc, show ((r.toNat : Nat) : Int) = r by omega] using this
      · walk_at "wf all"
        walk_at "wf op"
        walk_at "wf op"
        refine draw_ok (b := b + 2) h4 (by omega) (by omega) fun r S' h2 h3 h4 => ?_
        walk_at "wf all"
        have := k (.before v w r.toNat) S' ⟨hv, hw, by omega⟩ trivial (h4.mono (by omega))
        simpa [Q.enc, show ((r.toNat : Nat) : Int) = r by omega] using this
    · walk_at "wf all"
      walk_at "wf op"
      refine ⟨_, rfl, fun e3 => ?_, fun e3 => ?_⟩
      · walk_at "wf all"
        refine draw_ok (b := b + 2) h4 (by omega) (by omega) fun r S' h2 h3 h4 => ?_
        walk_at "wf op"
        have := k (.often v (2 + r).toNat) S' ⟨hv, by omega, by omega⟩ trivial (h4.mono (by omega))
        simpa [Q.enc, show (((2 + r).toNat : Nat) : Int) = 2 + r by omega] using this
      · walk_at "wf all"
        refine draw_ok (b := b + 2) h4 (by omega) (by omega) fun r S' h2 h3 h4 => ?_
        have : r = 0 ∨ r = 1 ∨ r = 2 := by omega
        rcases this with e | e | e <;> subst e
        · walk_at "wf op"
          exact k (.begin v) S' hv trivial (h4.mono (by omega))
        · walk_at "wf op"
          exact k (.end_ v) S' hv trivial (h4.mono (by omega))
        · walk_at "wf op"
          exact k (.word v) S' hv trivial (h4.mono (by omega))
/-- the draws that a question of depth d may take -/
def qcost : Nat → Nat
  | 0 => 0
  | d + 1 => 2 + 8 + 2 * qcost d
theorem question_ok : ∀ {n d : Nat} {S : Store} {b : Nat} {P : D → Store → Prop}, 1 ≤ d → d ≤ n → Tn ns.length (b + qcost d) R S → (∀ (q : Q) S', q.wf → q.depth ≤ d → Tn ns.length b R S' → P q.enc S') →
    Wp (L_question n [.lst (ns.map .int), .loc 0, .int d] S) P E
  | 0, d, S, b, P, h0, h1, _, _ => by omega
  | n + 1, d, S, b, P, h0, h1, h, k => by
    obtain ⟨d, rfl⟩ : ∃ d', d = d' + 1 := ⟨d - 1, by omega⟩
    have hc : qcost (d + 1) = 10 + 2 * qcost d := rfl
    have hsub : ∀ (S : Store), gSub (.int ((d + 1 : Nat) : Int)) (.int 1) S = .ok (.int (d : Nat)) S := fun S => by
      show Res.ok (D.int (((d + 1 : Nat) : Int) - 1)) S = _
      rw [show ((d + 1 : Nat) : Int) - 1 = (d : Nat) by omega]
    unfold L_question
    refine w_run ?_
    walk_at "wf all"
    refine draw_ok (b := b + 9 + 2 * qcost d) (h.mono (by omega)) (by omega) (by omega) fun r S' h2 h3 h4 => ?_
    have hs : Tn ns.length (b + 8) R S' := h4.mono (by omega)
    have simp' : ∀ (P' : D → Store → Prop), (∀ (q : Q) S', q.wf → q.depth ≤ d + 1 → Tn ns.length b R S' → P' q.enc S') → Wp (L_simple [.lst (ns.map .int), .loc 0] S') P' E :=
      fun P' k' => simple_ok hs fun q S2 h5 h6 h7 => k' q S2 h5 (by rw [Q.simple_depth h6]; omega) h7
    have sub : ∀ {S : Store} {b' : Nat} {P' : D → Store → Prop}, 1 ≤ d → Tn ns.length (b' + qcost d) R S → (∀ (q : Q) S', q.wf → q.depth ≤ d → Tn ns.length b' R S' → P' q.enc S') → Wp (L_question n [.lst (ns.map .int), .loc 0, .int d] S) P' E :=
      fun hd hT k' => question_ok hd (by omega) hT k'
    walk_at "wf all"
    refine wp_eq (a := .bl (((d + 1 : Nat) : Int) == 1)) (S := S') (by simp [gEq, res, D.plain, D.depth, D.eqv]) ?_
    refine ⟨_, rfl, fun e => ?_, fun e => ?_⟩
    · walk_at "wf all"
      refine wp_eq (a := .bl (r == 0)) (S := S') (by simp [gEq, res, D.plain, D.depth, D.eqv]) ?_
      refine ⟨_, rfl, fun e2 => ?_, fun e2 => ?_⟩
      · walk_at "wf all"
        exact simp' _ fun q S2 h5 h6 h7 => k q S2 h5 h6 h7
      · have hd : 1 ≤ d := by
          have : ¬ ((d + 1 : Nat) : Int) = 1 := by simpa using e
          omega
        walk_at "wf all"
        refine wp_eq (a := .bl (r == 1)) (S := S') (by simp [gEq, res, D.plain, D.depth, D.eqv]) ?_
        refine ⟨_, rfl, fun e3 => ?_, fun e3 => ?_⟩
        · walk_at "wf all"
          refine wp_eq (hsub _) ?_
          refine sub (b' := b) hd (h4.mono (by omega)) fun q S2 h5 h6 h7 => ?_
          exact k (.not q) S2 h5 (by simp [Q.depth]; omega) h7
        · walk_at "wf all"
          refine draw_ok (b := b + 8 + 2 * qcost d) (h4.mono (by omega)) (by omega) (by omega) fun r' S3 h5 h6 h7 => ?_
          have : r' = 0 ∨ r' = 1 := by omega
          rcases this with e | e <;> subst e
          · walk_at "wf op"
            refine wp_eq (hsub _) ?_
            refine sub (b' := b + 8 + qcost d) hd (h7.mono (by omega)) fun q S2 h5 h6 h8 => ?_
            walk_at "wf all"
            refine wp_eq (hsub _) ?_
            refine sub (b' := b) hd (h8.mono (by omega)) fun q2 S2 h9 h10 h11 => ?_
            exact k (.and q q2) S2 ⟨h5, h9⟩ (by simp [Q.depth]; omega) h11
          · walk_at "wf op"
            refine wp_eq (hsub _) ?_
            refine sub (b' := b + 8 + qcost d) hd (h7.mono (by omega)) fun q S2 h5 h6 h8 => ?_
            walk_at "wf all"
            refine wp_eq (hsub _) ?_
            refine sub (b' := b) hd (h8.mono (by omega)) fun q2 S2 h9 h10 h11 => ?_
            exact k (.or q q2) S2 ⟨h5, h9⟩ (by simp [Q.depth]; omega) h11
    · refine ⟨fun _ => ?_, fun z => nomatch z⟩
      walk_at "wf all"
      exact simp' _ fun q S2 h5 h6 h7 => k q S2 h5 h6 h7
/-- a text of the words -/
def okt (t : Cs) : Prop := ∀ c ∈ t, okc c
theorem join_nil : ∀ ts : List Cs, joinCs [] ts = ts.flatten
  | [] => rfl
  | [x] => by simp [joinCs]
  | x :: y :: xs => by rw [joinCs, join_nil (y :: xs)]; simp
theorem strsOf_signs : ∀ {ds : List D}, (∀ y ∈ ds, ∃ c, y = .str [c] ∧ okc c) → ∃ t : Cs, ds = signs t ∧ okt t
  | [], _ => ⟨[], rfl, by simp [okt]⟩
  | d :: ds, h => by
    obtain ⟨c, rfl, hc⟩ := h d (List.mem_cons_self ..)
    obtain ⟨t, rfl, ht⟩ := strsOf_signs fun y hy => h y (List.mem_cons_of_mem _ hy)
    refine ⟨c :: t, rfl, fun x hx => ?_⟩
    rcases List.mem_cons.mp hx with e | e
    · rw [e]; exact hc
    · exact ht x e
theorem strs_signs : ∀ t : Cs, strsOf (signs t) = some (t.map fun c => [c])
  | [] => rfl
  | c :: t => by
    show (strsOf (signs t)).map ([c] :: ·) = _
    rw [strs_signs t]
    rfl
theorem joinLen_one : ∀ t : Cs, joinLen [] (t.map fun c => [c]) = t.length
  | [] => rfl
  | c :: t => by
    have := joinLen_one t
    simp only [joinLen, List.map_cons, List.sum_cons, List.length_cons, List.length_nil] at this ⊢
    omega
theorem join_signs {t : Cs} {S : Store} (h : t.length ≤ lim) : bJoin (.str []) (.lst (signs t)) S = .ok (.str t) S := by
  unfold bJoin
  have e : (lstOf S (.lst (signs t))).bind strsOf = some (t.map fun c => [c]) := strs_signs t
  simp only [e]
  rw [if_pos ⟨by simpa using h, by rw [joinLen_one]; exact h⟩, join_nil]
  have : ∀ t : Cs, (t.map fun c => [c]).flatten = t := fun t => by
    induction t with
    | nil => rfl
    | cons c t ih => simp [ih]
  rw [this]
theorem text_ok {m : Nat} (hm : m < 900) (h : Tn ns.length (b + 1 + 2 * m) R S) (k : ∀ (t : Cs) S', okt t → t.length ≤ m → Tn ns.length b R S' → P (.str t) S') : Wp (L_text [.lst (ns.map .int), .loc 0, .int m] S) P E := by
  unfold L_text
  refine w_run ?_
  walk_at "wf all"
  refine ⟨_, rfl, ?_⟩
  walk_at "wf all"
  walk_at "wf op"
  refine draw_ok (b := b + 2 * m) (h.mono (by omega)) (by omega) (by omega) fun r S' h2 h3 h4 => ?_
  have hl : (rngD 0 r.toNat).length = r.toNat := by simp [rngD]
  refine ⟨r, rfl, by omega, by omega, rfl, by rw [hl]; simp [lim]; omega, ?_⟩
  refine (w_compL (fun n S => Tn ns.length (b + 2 * n) R S) (fun y => ∃ c, y = .str [c] ∧ okc c) (h4.mono (by rw [hl]; omega)) ?_).imp ?_
  · intro d n S h
    walk_at "wf all"
    exact word_ok (b := b + 2 * n) (h.mono (by omega)) fun c S2 hc h2 => ⟨⟨c, rfl, hc⟩, h2⟩
  · rintro ys S1 ⟨h5, h6, h7⟩
    obtain ⟨t, rfl, ht⟩ := strsOf_signs h6
    rw [hl] at h5
    have h8 : t.length ≤ m := by simp [signs] at h5; omega
    refine wp_eq (join_signs (by simp [lim]; omega)) ?_
    exact k t S1 ht h8 (h7.mono (by omega))
end
end WF

set_option linter.all false
set_option maxRecDepth 100000
set_option maxHeartbeats 4000000
/-! # MC: the checks and the finds, in plain Lean -/
namespace WF
section
variable {S : Store}
/-- the words -/
def Okc (c : Nat) : Bool := c == 97 || c == 98 || c == 99 || c == 100
theorem Okc_iff {c : Nat} : Okc c = true ↔ okc c := by simp [Okc, okc, or_assoc]
theorem bLen_str {t : Cs} (h : t.length ≤ lim) : bLen (.str t) S = .ok (.int t.length) S := by
  simp [bLen, res, h]
theorem lst_bools {bs : List Bool} : (lstOf S (.lst (bs.map D.bl))).bind boolsOf = some bs := by
  show boolsOf (bs.map D.bl) = _
  induction bs with
  | nil => rfl
  | cons b bs ih => simp [boolsOf, ih]
theorem bAll_ok {bs : List Bool} : bAll (.lst (bs.map D.bl)) S = .ok (.bl (bs.all id)) S := by simp [bAll, lst_bools]
theorem bAny_ok {bs : List Bool} : bAny (.lst (bs.map D.bl)) S = .ok (.bl (bs.any id)) S := by simp [bAny, lst_bools]
theorem filter_true {α : Type} (l : List α) : l.filter (fun _ => true) = l := by simp
/-- are_words of a text -/
theorem are_words_ok {t : Cs} {lo hi : Int} (h : t.length ≤ lim) : P_are_words [.str t, .int lo, .int hi] S = .ok (.bl (decide (lo ≤ t.length) && (decide ((t.length : Int) ≤ hi) && t.all Okc))) S := by
  have hc : dComp (iVal (dVar 0)) (gName 3) [3] tYes (dBin gIn (dVar 3) (dC (.str [97, 98, 99, 100]))) [some (.str t), some (.int lo), some (.int hi), none] S = .ok (.lst ((t.map Okc).map D.bl)) S := by
    rw [comp_pure (ds := signs t) (fun _ => true) (fun d => match d with | .str [c] => .bl (Okc c) | _ => .non) (by simp [iVal, dVar, h]) (by simpa [signs] using h)]
    · rw [filter_true, signs, List.map_map, List.map_map]
      rfl
    · intro d hd
      obtain ⟨c, hc, rfl⟩ := List.mem_map.mp hd
      refine ⟨_, rfl, rfl, fun _ => ?_⟩
      show gIn (.str [c]) (.str [97, 98, 99, 100]) S = _
      simp [gIn, res, subIn, List.isPrefixOf, Okc, Bool.or_assoc]
  have hw : Wp (P_are_words [.str t, .int lo, .int hi] S) (fun d S1 => d = .bl (decide (lo ≤ t.length) && (decide ((t.length : Int) ≤ hi) && t.all Okc)) ∧ S1 = S) fun _ _ => False := by
    unfold P_are_words
    refine w_run ?_
    walk_at "wf all"
    walk_at "wf op"
    walk_at "wf bool"
    walk_at "wf bool"
    walk_at "wf all"
    refine wp_eq (bLen_str h) ?_
    walk_at "wf op"
    refine ⟨_, rfl, fun e1 => ?_, fun e1 => ?_⟩
    · walk_at "wf all"
      walk_at "wf op"
      refine ⟨_, rfl, fun e2 => ?_, fun e2 => ?_⟩
      · refine w_call (w_all1 (wp_eq hc (w_all0 ?_)))
        refine wp_eq bAll_ok ?_
        exact ⟨by rw [e1, e2]; simp [List.all_map], rfl⟩
      · exact ⟨by rw [e1, e2]; rfl, rfl⟩
    · walk_at "wf bool"
      walk_at "wf bool"
      exact ⟨by rw [e1]; rfl, rfl⟩
  obtain ⟨a, S1, e, h1, h2⟩ := hw.ex
  rw [e, h1, h2]
theorem are_words_t {t : Cs} {lo hi : Nat} (h : okt t) (h1 : lo ≤ t.length) (h2 : t.length ≤ hi) (h3 : hi ≤ 1000) : P_are_words [.str t, .int lo, .int hi] S = .ok (.bl true) S := by
  rw [are_words_ok (by simp [lim]; omega)]
  have : t.all Okc = true := by
    rw [List.all_eq_true]
    exact fun c hc => Okc_iff.mpr (h c hc)
  rw [this]
  simp [h1, h2]
theorem is_between_ok {i lo hi : Int} : P_is_between [.int i, .int lo, .int hi] S = .ok (.bl (decide (lo ≤ i) && decide (i ≤ hi))) S := by
  have hw : Wp (P_is_between [.int i, .int lo, .int hi] S) (fun d S1 => d = .bl (decide (lo ≤ i) && decide (i ≤ hi)) ∧ S1 = S) fun _ _ => False := by
    unfold P_is_between
    refine w_run ?_
    walk_at "wf all"
    walk_at "wf op"
    refine ⟨_, rfl, fun _ => ?_, fun z => nomatch z⟩
    walk_at "wf all"
    walk_at "wf op"
    refine ⟨_, rfl, _, rfl, fun _ => ?_, fun z => nomatch z⟩
    walk_at "wf all"
    walk_at "wf op"
    refine ⟨_, rfl, fun e1 => ?_, fun e1 => ?_⟩
    · walk_at "wf all"
      walk_at "wf op"
      exact ⟨by rw [e1]; rfl, rfl⟩
    · exact ⟨by rw [e1]; rfl, rfl⟩
  obtain ⟨a, S1, e, h1, h2⟩ := hw.ex
  rw [e, h1, h2]
theorem one_ok {c : Nat} (h : okc c) : P_are_words [.str [c], .int 1, .int 1] S = .ok (.bl true) S :=
  are_words_t (lo := 1) (hi := 1) (by intro x hx; simp at hx; rw [hx]; exact h) (by simp) (by simp) (by decide)
theorem two_ok {v w : Nat} (hv : okc v) (hw : okc w) {ρ : Env} {x y z : Option D} (hρ : ρ = [x, y, z, none]) :
    compL (gName 3) [3] tYes (dCall P_are_words [(dVar 3), (dC (.int 1)), (dC (.int 1))]) ρ [.str [v], .str [w]] S = .ok [.bl true, .bl true] S := by
  subst hρ
  rw [compL_pure (fun _ => true) (fun _ => .bl true)]
  · rfl
  · intro d hd
    refine ⟨_, rfl, rfl, fun _ => ?_⟩
    have : ∃ c, d = .str [c] ∧ okc c := by
      simp at hd
      rcases hd with e | e
      · exact ⟨v, e, hv⟩
      · exact ⟨w, e, hw⟩
    obtain ⟨c, rfl, hc⟩ := this
    exact one_ok hc
theorem wp_to {α : Type} {r : Res α} {a : α} (h : Wp r (fun d S1 => d = a ∧ S1 = S) fun _ _ => False) : r = .ok a S := by
  obtain ⟨a, S1, e, h1, h2⟩ := h.ex
  rw [e, h1, h2]
theorem is_simple_ok {q : Q} (hw : q.wf) (hs : q.simple) : P_is_simple [q.enc] S = .ok (.bl true) S := by
  refine wp_to ?_
  cases q with
  | word c =>
    unfold P_is_simple
    refine w_run ?_
    walk_at "wf go"
    refine wp_eq (one_ok hw) ?_
    exact ⟨rfl, rfl⟩
  | begin c =>
    unfold P_is_simple
    refine w_run ?_
    walk_at "wf go"
    refine wp_eq (one_ok hw) ?_
    exact ⟨rfl, rfl⟩
  | end_ c =>
    unfold P_is_simple
    refine w_run ?_
    walk_at "wf go"
    refine wp_eq (one_ok hw) ?_
    exact ⟨rfl, rfl⟩
  | row s =>
    unfold P_is_simple
    refine w_run ?_
    walk_at "wf go"
    refine wp_eq (are_words_t (lo := 2) (hi := 3) hw.1 hw.2.1 hw.2.2 (by decide)) ?_
    exact ⟨rfl, rfl⟩
  | often c n =>
    unfold P_is_simple
    refine w_run ?_
    walk_at "wf go"
    refine wp_eq (one_ok hw.1) ?_
    walk_at "wf go"
    refine wp_eq (is_between_ok) ?_
    exact ⟨by have := hw.2.1; have := hw.2.2; simp; omega, rfl⟩
  | near v w g =>
    unfold P_is_simple
    refine w_run ?_
    walk_at "wf go"
    refine ⟨[.str [v], .str [w]], .inr (.inl rfl), rfl, by simp [lim], ?_⟩
    refine wp_eq (two_ok hw.1 hw.2.1 rfl) ?_
    walk_at "wf go"
    refine wp_eq (is_between_ok) ?_
    exact ⟨by have := hw.2.2; simp; omega, rfl⟩
  | before v w g =>
    unfold P_is_simple
    refine w_run ?_
    walk_at "wf go"
    refine ⟨[.str [v], .str [w]], .inr (.inl rfl), rfl, by simp [lim], ?_⟩
    refine wp_eq (two_ok hw.1 hw.2.1 rfl) ?_
    walk_at "wf go"
    refine wp_eq (is_between_ok) ?_
    exact ⟨by have := hw.2.2; simp; omega, rfl⟩
  | not p => exact hs.elim
  | and p q => exact hs.elim
  | or p q => exact hs.elim
theorem is_at_most_ok : ∀ {n d : Nat} {q : Q}, q.wf → q.depth ≤ d → q.depth ≤ n → P_is_at_most n [q.enc, .int d] S = .ok (.bl true) S
  | 0, d, q, _, _, h => by have := q.depth_pos; omega
  | n + 1, 0, q, _, h, _ => by have := q.depth_pos; omega
  | n + 1, d + 1, q, hw, h1, h2 => by
    refine wp_to ?_
    have hlt : ∀ S : Store, gLt (.int ((d + 1 : Nat) : Int)) (.int 1) S = .ok (.bl false) S := fun S => by
      show Res.ok (D.bl (decide (((d + 1 : Nat) : Int) < 1))) S = _
      rw [decide_eq_false (by omega)]
    have hsub : ((d + 1 : Nat) : Int) - 1 = (d : Nat) := by omega
    have simp' : q.simple → ∀ {P : D → Store → Prop}, P (.bl true) S → Wp (P_is_simple [q.enc] S) P fun _ _ => False := fun hs P h => wp_eq (is_simple_ok hw hs) h
    cases q with
    | not p =>
      unfold P_is_at_most
      refine w_run ?_
      walk_at "wf all"
      refine wp_eq (hlt _) ?_
      walk_at "wf go"
      rw [hsub]
      refine wp_eq (is_at_most_ok (q := p) hw (by simp [Q.depth] at h1; omega) (by simp [Q.depth] at h2; omega)) ?_
      exact ⟨rfl, rfl⟩
    | and p q =>
      have hp := is_at_most_ok (n := n) (d := d) (q := p) hw.1 (by simp [Q.depth] at h1; omega) (by simp [Q.depth] at h2; omega)
      have hq := is_at_most_ok (n := n) (d := d) (q := q) hw.2 (by simp [Q.depth] at h1; omega) (by simp [Q.depth] at h2; omega)
      unfold P_is_at_most
      refine w_run ?_
      walk_at "wf all"
      refine wp_eq (hlt _) ?_
      walk_at "wf go"
      refine ⟨[p.enc, q.enc], .inr (.inl rfl), rfl, by simp [lim], ?_⟩
      refine wp_eq (a := [.bl true, .bl true]) (S := S) ?_ ?_
      · rw [compL_pure (fun _ => true) (fun _ => .bl true)]
        · rfl
        · intro x hx
          refine ⟨_, rfl, rfl, fun _ => ?_⟩
          show P_is_at_most n [x, .int (((d + 1 : Nat) : Int) - 1)] S = _
          rw [hsub]
          simp at hx
          rcases hx with e | e <;> rw [e]
          · exact hp
          · exact hq
      · walk_at "wf go"
        exact ⟨rfl, rfl⟩
    | or p q =>
      have hp := is_at_most_ok (n := n) (d := d) (q := p) hw.1 (by simp [Q.depth] at h1; omega) (by simp [Q.depth] at h2; omega)
      have hq := is_at_most_ok (n := n) (d := d) (q := q) hw.2 (by simp [Q.depth] at h1; omega) (by simp [Q.depth] at h2; omega)
      unfold P_is_at_most
      refine w_run ?_
      walk_at "wf all"
      refine wp_eq (hlt _) ?_
      walk_at "wf go"
      refine ⟨[p.enc, q.enc], .inr (.inl rfl), rfl, by simp [lim], ?_⟩
      refine wp_eq (a := [.bl true, .bl true]) (S := S) ?_ ?_
      · rw [compL_pure (fun _ => true) (fun _ => .bl true)]
        · rfl
        · intro x hx
          refine ⟨_, rfl, rfl, fun _ => ?_⟩
          show P_is_at_most n [x, .int (((d + 1 : Nat) : Int) - 1)] S = _
          rw [hsub]
          simp at hx
          rcases hx with e | e <;> rw [e]
          · exact hp
          · exact hq
      · walk_at "wf go"
        exact ⟨rfl, rfl⟩
    | word c =>
      unfold P_is_at_most
      refine w_run ?_
      walk_at "wf all"
      refine wp_eq (hlt _) ?_
      walk_at "wf go"
      exact simp' trivial ⟨rfl, rfl⟩
    | begin c =>
      unfold P_is_at_most
      refine w_run ?_
      walk_at "wf all"
      refine wp_eq (hlt _) ?_
      walk_at "wf go"
      exact simp' trivial ⟨rfl, rfl⟩
    | end_ c =>
      unfold P_is_at_most
      refine w_run ?_
      walk_at "wf all"
      refine wp_eq (hlt _) ?_
      walk_at "wf go"
      exact simp' trivial ⟨rfl, rfl⟩
    | row s =>
      unfold P_is_at_most
      refine w_run ?_
      walk_at "wf all"
      refine wp_eq (hlt _) ?_
      walk_at "wf go"
      exact simp' trivial ⟨rfl, rfl⟩
    | near v w g =>
      unfold P_is_at_most
      refine w_run ?_
      walk_at "wf all"
      refine wp_eq (hlt _) ?_
      walk_at "wf go"
      exact simp' trivial ⟨rfl, rfl⟩
    | before v w g =>
      unfold P_is_at_most
      refine w_run ?_
      walk_at "wf all"
      refine wp_eq (hlt _) ?_
      walk_at "wf go"
      exact simp' trivial ⟨rfl, rfl⟩
    | often c n =>
      unfold P_is_at_most
      refine w_run ?_
      walk_at "wf all"
      refine wp_eq (hlt _) ?_
      walk_at "wf go"
      exact simp' trivial ⟨rfl, rfl⟩
end
end WF

set_option linter.all false
set_option maxRecDepth 100000
set_option maxHeartbeats 4000000
/-! # MF: depth, closeness, does_find, finds, in plain Lean -/
namespace WF
section
variable {S : Store}
section
theorem check_q {q : Q} (hw : q.wf) (hd : q.depth ≤ 3) : P_check_question [q.enc] S = .ok .non S := by
  have h : P_is_question [q.enc] S = .ok (.bl true) S := by
    refine wp_to ?_
    unfold P_is_question
    refine w_run ?_
    walk_at "wf all"
    refine wp_eq (is_at_most_ok (n := fuel) (d := 3) hw hd (fuel_le (by omega))) ?_
    exact ⟨rfl, rfl⟩
  refine wp_to ?_
  unfold P_check_question
  refine w_run ?_
  walk_at "wf all"
  refine wp_eq h ?_
  walk_at "wf go"
  exact ⟨rfl, rfl⟩
theorem check_t {t : Cs} (ht : okt t) (hl : t.length ≤ 60) : P_check_text [.str t] S = .ok .non S := by
  refine wp_to ?_
  unfold P_check_text
  refine w_run ?_
  walk_at "wf all"
  refine wp_eq (are_words_t (lo := 0) (hi := 60) ht (by omega) hl (by decide)) ?_
  walk_at "wf go"
  exact ⟨rfl, rfl⟩
end
theorem depth_of_ok : ∀ {n : Nat} {q : Q}, q.depth ≤ n → P_depth_of n [q.enc] S = .ok (.int q.depth) S
  | 0, q, h => by have := q.depth_pos; omega
  | n + 1, q, h => by
    refine wp_to ?_
    cases q with
    | not p =>
      unfold P_depth_of
      refine w_run ?_
      walk_at "wf go"
      refine wp_eq (depth_of_ok (q := p) (by simp [Q.depth] at h; omega)) ?_
      walk_at "wf go"
      refine ⟨?_, rfl⟩
      simp only [Q.depth]
      congr 1
      omega
    | and p q =>
      unfold P_depth_of
      refine w_run ?_
      walk_at "wf go"
      refine wp_eq (depth_of_ok (q := p) (by simp [Q.depth] at h; omega)) ?_
      walk_at "wf go"
      refine wp_eq (depth_of_ok (q := q) (by simp [Q.depth] at h; omega)) ?_
      walk_at "wf go"
      refine ⟨?_, rfl⟩
      simp only [Q.depth]
      congr 1
      split <;> omega
    | or p q =>
      unfold P_depth_of
      refine w_run ?_
      walk_at "wf go"
      refine wp_eq (depth_of_ok (q := p) (by simp [Q.depth] at h; omega)) ?_
      walk_at "wf go"
      refine wp_eq (depth_of_ok (q := q) (by simp [Q.depth] at h; omega)) ?_
      walk_at "wf go"
      refine ⟨?_, rfl⟩
      simp only [Q.depth]
      congr 1
      split <;> omega
    | word c => unfold P_depth_of; refine w_run ?_; walk_at "wf go"; exact ⟨rfl, rfl⟩
    | begin c => unfold P_depth_of; refine w_run ?_; walk_at "wf go"; exact ⟨rfl, rfl⟩
    | end_ c => unfold P_depth_of; refine w_run ?_; walk_at "wf go"; exact ⟨rfl, rfl⟩
    | row c => unfold P_depth_of; refine w_run ?_; walk_at "wf go"; exact ⟨rfl, rfl⟩
    | near c w g => unfold P_depth_of; refine w_run ?_; walk_at "wf go"; exact ⟨rfl, rfl⟩
    | before c w g => unfold P_depth_of; refine w_run ?_; walk_at "wf go"; exact ⟨rfl, rfl⟩
    | often c g => unfold P_depth_of; refine w_run ?_; walk_at "wf go"; exact ⟨rfl, rfl⟩
section
theorem depth_ok {q : Q} (hw : q.wf) (hd : q.depth ≤ 3) : P_depth [q.enc] S = .ok (.int q.depth) S := by
  refine wp_to ?_
  unfold P_depth
  refine w_run ?_
  walk_at "wf all"
  refine wp_eq (check_q hw hd) ?_
  walk_at "wf all"
  refine wp_eq (depth_of_ok (fuel_le (by omega))) ?_
  exact ⟨rfl, rfl⟩
end
/-! ### pieces of texts -/
theorem sIx_nat {n d a : Nat} : sIx n d (some (a : Int)) = min a n := by
  unfold sIx
  dsimp only
  rw [if_neg (by omega)]
  omega
theorem mem_cut {t : Cs} {a b w : Nat} : w ∈ cut t (some (a : Int)) (some (b : Int)) ↔ ∃ j, a ≤ j ∧ j < b ∧ t[j]? = some w := by
  unfold cut
  rw [sIx_nat, sIx_nat, List.mem_iff_getElem?]
  constructor
  · rintro ⟨i, h⟩
    rw [List.getElem?_take] at h
    split at h
    · rename_i hi
      rw [List.getElem?_drop] at h
      refine ⟨min a t.length + i, ?_, by omega, h⟩
      have : min a t.length + i < t.length := by
        rcases Nat.lt_or_ge (min a t.length + i) t.length with z | z
        · exact z
        · rw [List.getElem?_eq_none z] at h; cases h
      omega
    · cases h
  · rintro ⟨j, h1, h2, h⟩
    have hj : j < t.length := by
      rcases Nat.lt_or_ge j t.length with z | z
      · exact z
      · rw [List.getElem?_eq_none z] at h; cases h
    refine ⟨j - min a t.length, ?_⟩
    rw [List.getElem?_take, if_pos (by omega), List.getElem?_drop, show min a t.length + (j - min a t.length) = j by omega]
    exact h
theorem subIn_one {w : Nat} : ∀ {l : Cs}, subIn [w] l = l.contains w
  | [] => rfl
  | c :: l => by
    unfold subIn
    rw [subIn_one, List.contains_cons]
    simp [List.isPrefixOf]
theorem mem_enum {d : D} : ∀ {t : Cs} {k : Nat}, d ∈ enumFrom k (signs t) ↔ ∃ i c, t[i]? = some c ∧ d = .tup [.int ((k + i : Nat) : Int), .str [c]]
  | [], k => by simp [signs, enumFrom]
  | c :: t, k => by
    show d ∈ .tup [.int (k : Int), .str [c]] :: enumFrom (k + 1) (signs t) ↔ _
    rw [List.mem_cons, mem_enum]
    constructor
    · rintro (h | ⟨i, c', h1, h2⟩)
      · exact ⟨0, c, rfl, h⟩
      · exact ⟨i + 1, c', h1, by rw [h2, show k + 1 + i = k + (i + 1) by omega]⟩
    · rintro ⟨i, c', h1, h2⟩
      cases i with
      | zero =>
        simp at h1
        exact .inl (by rw [h2, h1]; rfl)
      | succ i => exact .inr ⟨i, c', by simpa using h1, by rw [h2, show k + 1 + i = k + (i + 1) by omega]⟩
/-- one turn of are_close -/
def cloH (t : Cs) (v w : Nat) (g : Int) (d : D) : Bool := match d with
  | .tup [.int i, .str [c]] => c == v && subIn [w] (cut t (some (i + 1)) (some (i + 2 + g)))
  | _ => false
def clo (t : Cs) (v w : Nat) (g : Nat) : Bool := (enumFrom 0 (signs t)).any (cloH t v w g)
theorem clo_iff {t : Cs} {v w g : Nat} : clo t v w g = true ↔ ∃ i j, t[i]? = some v ∧ t[j]? = some w ∧ i < j ∧ j ≤ i + 1 + g := by
  unfold clo
  rw [List.any_eq_true]
  constructor
  · rintro ⟨d, hd, h⟩
    obtain ⟨i, c, hc, rfl⟩ := mem_enum.mp hd
    simp only [cloH, Bool.and_eq_true, beq_iff_eq, subIn_one, List.contains_iff_mem] at h
    obtain ⟨rfl, h⟩ := h
    rw [show ((0 + i : Nat) : Int) + 1 = ((i + 1 : Nat) : Int) by omega, show ((0 + i : Nat) : Int) + 2 + (g : Int) = ((i + 2 + g : Nat) : Int) by omega, mem_cut] at h
    obtain ⟨j, h1, h2, h3⟩ := h
    exact ⟨i, j, hc, h3, by omega, by omega⟩
  · rintro ⟨i, j, h1, h2, h3, h4⟩
    refine ⟨_, mem_enum.mpr ⟨i, v, h1, rfl⟩, ?_⟩
    simp only [cloH, Bool.and_eq_true, beq_iff_eq, subIn_one, List.contains_iff_mem]
    refine ⟨trivial, ?_⟩
    rw [show ((0 + i : Nat) : Int) + 1 = ((i + 1 : Nat) : Int) by omega, show ((0 + i : Nat) : Int) + 2 + (g : Int) = ((i + 2 + g : Nat) : Int) by omega, mem_cut]
    exact ⟨j, by omega, by omega, h2⟩
theorem enum_length : ∀ (ds : List D) (k : Nat), (enumFrom k ds).length = ds.length
  | [], _ => rfl
  | d :: ds, k => by unfold enumFrom; rw [List.length_cons, List.length_cons, enum_length ds]
theorem gEq_str {a b : Cs} : gEq (.str a) (.str b) S = .ok (.bl (a == b)) S := by simp [gEq, res, D.plain, D.depth, D.eqv]
theorem are_close_ok {t : Cs} {v w g : Nat} (hl : t.length ≤ lim) : P_are_close [.str t, .str [v], .str [w], .int g] S = .ok (.bl (clo t v w g)) S := by
  refine wp_to ?_
  unfold P_are_close
  refine w_run ?_
  refine w_ret (w_call (w_all1 ?_))
  refine wp_eq (comp_pure (ds := enumFrom 0 (signs t)) (fun _ => true) (fun d => .bl (cloH t v w g d)) ?_ ?_ ?_) ?_
  · simp [iEnum, dVar, startE, hl]
  · rw [enum_length]; simpa [signs] using hl
  · intro d hd
    obtain ⟨i, c, hc, rfl⟩ := mem_enum.mp hd
    refine ⟨[some (.str t), some (.str [v]), some (.str [w]), some (.int g), some (.int ((0 + i : Nat) : Int)), some (.str [c])], rfl, rfl, fun _ => ?_⟩
    refine wp_to ?_
    walk_at "wf all"
    refine wp_eq gEq_str ?_
    refine ⟨_, rfl, fun e => ?_, fun e => ?_⟩
    · walk_at "wf all"
      walk_at "wf go"
      refine wp_eq (a := .str (cut t (some (((0 + i : Nat) : Int) + 1)) (some (((0 + i : Nat) : Int) + 2 + (g : Int))))) (S := S) (by simp [gSlice, res, hl]) ?_
      walk_at "wf op"
      refine ⟨?_, rfl⟩
      have e' : (c == v) = true := by simpa using e
      simp only [cloH, e', Bool.true_and]
    · have e' : (c == v) = false := by simpa using e
      refine ⟨?_, rfl⟩
      simp only [cloH, e', Bool.false_and]
  · rw [filter_true]
    have : (enumFrom 0 (signs t)).map (fun d => D.bl (cloH t v w g d)) = ((enumFrom 0 (signs t)).map (cloH t v w g)).map D.bl := by simp
    rw [this]
    refine w_all0 ?_
    refine wp_eq bAny_ok ?_
    refine ⟨?_, rfl⟩
    rw [clo, List.any_map]
    rfl
/-! ### what a question finds -/
def Q.ev : Q → Cs → Bool
  | .word c, t => subIn [c] t
  | .row s, t => subIn s t
  | .begin c, t => cut t none (some 1) == [c]
  | .end_ c, t => cut t (some (-1)) none == [c]
  | .often c n, t => decide ((n : Int) ≤ ((t.count c : Nat) : Int))
  | .near v w g, t => clo t w v g || clo t v w g
  | .before v w g, t => clo t v w g
  | .not p, t => !p.ev t
  | .and p q, t => p.ev t && q.ev t
  | .or p q, t => p.ev t || q.ev t
theorem does_find_ok : ∀ {n : Nat} {q : Q} {t : Cs}, q.depth ≤ n → t.length ≤ lim → P_does_find n [q.enc, .str t] S = .ok (.bl (q.ev t)) S
  | 0, q, _, h, _ => by have := q.depth_pos; omega
  | n + 1, q, t, h, hl => by
    refine wp_to ?_
    cases q with
    | not p =>
      unfold P_does_find
      refine w_run ?_
      walk_at "wf go"
      refine wp_eq (does_find_ok (q := p) (by simp [Q.depth] at h; omega) hl) ?_
      walk_at "wf go"
      exact ⟨rfl, rfl⟩
    | and p q =>
      unfold P_does_find
      refine w_run ?_
      walk_at "wf go"
      refine wp_eq (does_find_ok (q := p) (by simp [Q.depth] at h; omega) hl) ?_
      refine ⟨_, rfl, fun e => ?_, fun e => ?_⟩
      · walk_at "wf go"
        refine wp_eq (does_find_ok (q := q) (by simp [Q.depth] at h; omega) hl) ?_
        exact ⟨by simp [Q.ev, e], rfl⟩
      · exact ⟨by simp [Q.ev, e], rfl⟩
    | or p q =>
      unfold P_does_find
      refine w_run ?_
      walk_at "wf go"
      refine wp_eq (does_find_ok (q := p) (by simp [Q.depth] at h; omega) hl) ?_
      refine ⟨_, rfl, fun e => ?_, fun e => ?_⟩
      · walk_at "wf go"
        refine wp_eq (does_find_ok (q := q) (by simp [Q.depth] at h; omega) hl) ?_
        exact ⟨by simp [Q.ev, e], rfl⟩
      · exact ⟨by simp [Q.ev, e], rfl⟩
    | word c =>
      unfold P_does_find
      refine w_run ?_
      walk_at "wf go"
      exact ⟨rfl, rfl⟩
    | row c =>
      unfold P_does_find
      refine w_run ?_
      walk_at "wf go"
      exact ⟨rfl, rfl⟩
    | begin c =>
      unfold P_does_find
      refine w_run ?_
      walk_at "wf go"
      refine wp_eq (a := .str (cut t none (some 1))) (S := S) (by simp [gSlice, res, hl]) ?_
      walk_at "wf all"
      refine wp_eq gEq_str ?_
      exact ⟨rfl, rfl⟩
    | end_ c =>
      unfold P_does_find
      refine w_run ?_
      walk_at "wf go"
      refine wp_eq (a := .str (cut t (some (-1)) none)) (S := S) (by simp [gSlice, res, hl]) ?_
      walk_at "wf all"
      refine wp_eq gEq_str ?_
      exact ⟨rfl, rfl⟩
    | often c n =>
      unfold P_does_find
      refine w_run ?_
      walk_at "wf go"
      exact ⟨rfl, rfl⟩
    | near v w g =>
      unfold P_does_find
      refine w_run ?_
      walk_at "wf go"
      refine wp_eq (are_close_ok hl) ?_
      refine ⟨_, rfl, fun e => ?_, fun e => ?_⟩
      · walk_at "wf go"
        exact ⟨by simp [Q.ev, e], rfl⟩
      · walk_at "wf go"
        refine wp_eq (are_close_ok hl) ?_
        exact ⟨by simp [Q.ev, e], rfl⟩
    | before v w g =>
      unfold P_does_find
      refine w_run ?_
      walk_at "wf go"
      refine wp_eq (are_close_ok hl) ?_
      exact ⟨by simp [Q.ev], rfl⟩
section
theorem finds_ok {q : Q} {t : Cs} (hw : q.wf) (hd : q.depth ≤ 3) (ht : okt t) (hl : t.length ≤ 60) : P_finds [q.enc, .str t] S = .ok (.bl (q.ev t)) S := by
  refine wp_to ?_
  unfold P_finds
  refine w_run ?_
  walk_at "wf all"
  refine wp_eq (check_q hw hd) ?_
  walk_at "wf all"
  refine wp_eq (check_t ht hl) ?_
  walk_at "wf all"
  refine wp_eq (does_find_ok (fuel_le (by omega)) (by simp [lim]; omega)) ?_
  exact ⟨rfl, rfl⟩
end
end
end WF

set_option linter.all false
set_option maxRecDepth 100000
set_option maxHeartbeats 4000000
/-! # ML: the laws' own finds, in plain Lean -/
namespace WF
section
variable {S : Store}
/-- places of a sign: one turn -/
def plcH (t : Cs) (s : Cs) (d : D) : Bool := match d with
  | .int i => match t[i.toNat]? with
    | some c => [c] == s
    | none => false
  | _ => false
def plc (t s : Cs) : List D := (rngD 0 t.length).filter (plcH t s)
theorem mem_rng {n : Nat} {d : D} : d ∈ rngD 0 n ↔ ∃ i : Nat, i < n ∧ d = .int (i : Int) := by
  unfold rngD
  rw [List.mem_map]
  constructor
  · rintro ⟨i, hi, rfl⟩
    exact ⟨i, List.mem_range.mp hi, by simp⟩
  · rintro ⟨i, hi, rfl⟩
    exact ⟨i, List.mem_range.mpr hi, by simp⟩
theorem mem_plc {t : Cs} {c : Nat} {d : D} : d ∈ plc t [c] ↔ ∃ i : Nat, t[i]? = some c ∧ d = .int (i : Int) := by
  unfold plc
  rw [List.mem_filter, mem_rng]
  constructor
  · rintro ⟨⟨i, hi, rfl⟩, h⟩
    refine ⟨i, ?_, rfl⟩
    simp only [plcH, Int.toNat_natCast, List.getElem?_eq_getElem hi] at h ⊢
    simpa using h
  · rintro ⟨i, h, rfl⟩
    have hi : i < t.length := by
      rcases Nat.lt_or_ge i t.length with z | z
      · exact z
      · rw [List.getElem?_eq_none z] at h; cases h
    refine ⟨⟨i, hi, rfl⟩, ?_⟩
    simp [plcH, h]
def isInt : D → Prop
  | .int _ => True
  | _ => False
theorem plains_isInt : ∀ {ds : List D}, (∀ d ∈ ds, isInt d) → D.plains ds = true
  | [], _ => rfl
  | d :: ds, h => by
    have h1 := h d (List.mem_cons_self ..)
    have h2 := plains_isInt fun x hx => h x (List.mem_cons_of_mem _ hx)
    cases d <;> first | exact h1.elim | simp [D.plains, D.plain, h2]
theorem eqvs_nil {ds : List D} : D.eqvs ds [] = ds.isEmpty := by cases ds <;> rfl
theorem gNe_nil {ds : List D} (h : ∀ d ∈ ds, isInt d) : gNe (.lst ds) (.lst []) S = .ok (.bl (!ds.isEmpty)) S := by
  have : gEq (.lst ds) (.lst []) S = .ok (.bl ds.isEmpty) S := by
    simp [gEq, res, D.plain, plains_isInt h, D.plains, D.depth, D.depths, D.eqv, eqvs_nil]
  simp [gNe, this]
theorem rng_len {n : Nat} : (rngD 0 n).length = n := by simp [rngD]
theorem gIdx_str {t : Cs} {i : Nat} {c : Nat} (hl : t.length ≤ lim) (h : t[i]? = some c) : gIdx (.str t) (.int (i : Int)) S = .ok (.str [c]) S := by
  have : atI t (i : Int) = some c := atI_at (by omega) (by simpa using h)
  simp [gIdx, res, hl, this]
/-- the places of a sign, as the laws list them -/
theorem plc_comp {ρ : Env} {t s : Cs} {ps : List D} {j : Nat} (hl : t.length ≤ lim) (h1 : ρ[1]? = some (some (.str t))) (hρ : ρ.length = 11) (hj : (ρ.set 4 none)[6]? = some (some (.tup ps))) (hs : ∀ S' : Store, gIdx (.tup ps) (.int (j : Int)) S' = .ok (.str s) S') :
    dComp (iRange1 (dCall (f1 bLen) [(dVar 1)])) (gName 4) [4] (tVal (dBin gEq (dBin gIdx (dVar 1) (dVar 4)) (dBin gIdx (dVar 6) (dC (.int (j : Int)))))) (dVar 4) ρ S = .ok (.lst (plc t s)) S := by
  have hlen : (t.length : Int) ≤ 16777216 := by simp [lim] at hl; omega
  rw [comp_pure (ds := rngD 0 t.length) (plcH t s) id]
  · rw [List.map_id]; rfl
  · simp only [iRange1, dCall, evalAll, dVar, h1, Res.ok_bind, f1, bLen_str hl]
    rw [if_pos ⟨by omega, hlen⟩]
    simp
  · rw [rng_len]; exact hl
  · intro d hd
    obtain ⟨i, hi, rfl⟩ := mem_rng.mp hd
    have hi' : t[i]? = some t[i] := List.getElem?_eq_getElem hi
    have v1 : ((wipe ρ [4]).set 4 (some (.int (i : Int))))[1]? = some (some (.str t)) := by
      simp [wipe, List.getElem?_set, h1]
    have v4 : ((wipe ρ [4]).set 4 (some (.int (i : Int))))[4]? = some (some (.int (i : Int))) := by
      simp [wipe, List.getElem?_set, hρ]
    have v6 : ((wipe ρ [4]).set 4 (some (.int (i : Int))))[6]? = some (some (.tup ps)) := by
      rw [← hj]
      simp [wipe, List.getElem?_set]
    refine ⟨_, rfl, wp_to ?_, fun _ => ?_⟩
    · refine w_tv (w_bin (w_bin (w_var v1 (w_var v4 ?_))))
      refine wp_eq (gIdx_str hl hi') (w_bin (w_var v6 (w_c ?_)))
      refine wp_eq (hs S) ?_
      refine wp_eq gEq_str ?_
      refine ⟨_, rfl, ?_, rfl⟩
      simp only [plcH, Int.toNat_natCast, hi']
    · simp only [dVar, v4, id]
theorem plc_int {t s : Cs} : ∀ d ∈ plc t s, isInt d := by
  intro d hd
  obtain ⟨i, _, rfl⟩ := mem_rng.mp (List.mem_filter.mp hd).1
  trivial
theorem plc_count {t : Cs} {c : Nat} : (plc t [c]).length = t.count c := by
  have key : ∀ (u : Cs) (k : Nat), ((List.range u.length).filter fun i => match u[i]? with
      | some x => [x] == [c]
      | none => false).length = u.count c := by
    intro u
    induction u with
    | nil => intro k; rfl
    | cons x u ih =>
      intro k
      rw [List.length_cons, List.range_succ_eq_map, List.filter_cons, List.filter_map, List.count_cons]
      have := ih k
      simp only [Function.comp_def, List.getElem?_cons_zero, List.getElem?_cons_succ, Nat.succ_eq_add_one] at this ⊢
      split
      · rename_i h
        rw [List.length_cons, List.length_map, this]
        simp at h
        simp [h]
      · rename_i h
        rw [List.length_map, this]
        simp at h
        simp [h]
  unfold plc rngD
  rw [List.filter_map, List.length_map, ← key t 0]
  congr 2
  funext i
  simp [plcH]
/-! ### row -/
def rowH (t s : Cs) (d : D) : Bool := match d with
  | .int k => cut t (some k) (some (k + (s.length : Int))) == s
  | _ => false
theorem cut_nat {t : Cs} {a b : Nat} (ha : a ≤ t.length) : cut t (some (a : Int)) (some ((a : Int) + (b : Int))) = (t.drop a).take b := by
  unfold cut
  rw [sIx_nat, show (a : Int) + (b : Int) = ((a + b : Nat) : Int) by omega, sIx_nat, Nat.min_eq_left ha]
  rcases Nat.le_total (a + b) t.length with h | h
  · rw [Nat.min_eq_left h]
    congr 1
    omega
  · rw [Nat.min_eq_right h, List.take_of_length_le (by simp), List.take_of_length_le (by simp; omega)]
theorem subIn_iffM {s : Cs} (hs : s ≠ []) : ∀ {t : Cs}, subIn s t = true ↔ ∃ k, k < t.length ∧ (t.drop k).take s.length = s
  | [] => by
    cases s with
    | nil => exact absurd rfl hs
    | cons c s => simp [subIn]
  | c :: t => by
    unfold subIn
    rw [Bool.or_eq_true, subIn_iffM hs]
    constructor
    · rintro (h | ⟨k, h1, h2⟩)
      · exact ⟨0, by simp, by
          obtain ⟨r, hr⟩ := List.isPrefixOf_iff_prefix.mp h
          rw [List.drop_zero, ← hr, List.take_left]⟩
      · exact ⟨k + 1, by simp; omega, by simpa using h2⟩
    · rintro ⟨k, h1, h2⟩
      cases k with
      | zero =>
        left
        rw [List.isPrefixOf_iff_prefix]
        rw [List.drop_zero] at h2
        exact ⟨(c :: t).drop s.length, by
          have := List.take_append_drop s.length (c :: t)
          rwa [h2] at this⟩
      | succ k => exact .inr ⟨k, by simp at h1; omega, by simpa using h2⟩
theorem rowF_iff {t s : Cs} (hs : s ≠ []) : (!((rngD 0 t.length).filter (rowH t s)).isEmpty) = subIn s t := by
  rw [Bool.eq_iff_iff, subIn_iffM hs]
  simp only [Bool.not_eq_true', List.isEmpty_eq_false_iff_exists_mem]
  constructor
  · rintro ⟨d, hd⟩
    obtain ⟨h1, h2⟩ := List.mem_filter.mp hd
    obtain ⟨k, hk, rfl⟩ := mem_rng.mp h1
    refine ⟨k, hk, ?_⟩
    simp only [rowH, beq_iff_eq] at h2
    rwa [cut_nat (by omega)] at h2
  · rintro ⟨k, hk, h⟩
    refine ⟨.int (k : Int), List.mem_filter.mpr ⟨mem_rng.mpr ⟨k, hk, rfl⟩, ?_⟩⟩
    simp only [rowH, beq_iff_eq]
    rwa [cut_nat (by omega)]
/-! ### near, before -/
def hitC (nr : Bool) (g : Int) (p k : Int) : Bool := (decide (0 < k - p) && decide (k - p ≤ g + 1)) || (nr && (decide (0 < p - k) && decide (p - k ≤ g + 1)))
def hitH (nr : Bool) (g : Int) (p : Int) (d : D) : Bool := match d with
  | .int k => hitC nr g p k
  | _ => false
def hit (t : Cs) (w : Nat) (nr : Bool) (g : Int) (d : D) : Bool := match d with
  | .int p => !((plc t [w]).filter (hitH nr g p)).isEmpty
  | _ => false
theorem hit_iff {t : Cs} {v w g : Nat} {nr : Bool} : ((plc t [v]).any (hit t w nr g)) = (clo t v w g || (nr && clo t w v g)) := by
  rw [Bool.eq_iff_iff]
  rw [List.any_eq_true]
  simp only [Bool.or_eq_true, Bool.and_eq_true, clo_iff]
  constructor
  · rintro ⟨d, hd, h⟩
    obtain ⟨i, hi, rfl⟩ := mem_plc.mp hd
    simp only [hit, Bool.not_eq_true', List.isEmpty_eq_false_iff_exists_mem] at h
    obtain ⟨e, he⟩ := h
    obtain ⟨h1, h2⟩ := List.mem_filter.mp he
    obtain ⟨j, hj, rfl⟩ := mem_plc.mp h1
    simp only [hitH, hitC, Bool.or_eq_true, Bool.and_eq_true, decide_eq_true_eq] at h2
    rcases h2 with h2 | ⟨h3, h2⟩
    · exact .inl ⟨i, j, hi, hj, by omega, by omega⟩
    · exact .inr ⟨h3, j, i, hj, hi, by omega, by omega⟩
  · intro h
    have : ∃ i j : Nat, t[i]? = some v ∧ t[j]? = some w ∧ hitC nr g i j = true := by
      rcases h with ⟨i, j, h1, h2, h3, h4⟩ | ⟨h0, i, j, h1, h2, h3, h4⟩
      · exact ⟨i, j, h1, h2, by simp only [hitC, Bool.or_eq_true, Bool.and_eq_true, decide_eq_true_eq]; left; omega⟩
      · exact ⟨j, i, h2, h1, by simp only [hitC, Bool.or_eq_true, Bool.and_eq_true, decide_eq_true_eq]; exact .inr ⟨h0, by omega⟩⟩
    obtain ⟨i, j, h1, h2, h3⟩ := this
    refine ⟨.int (i : Int), mem_plc.mpr ⟨i, h1, rfl⟩, ?_⟩
    simp only [hit, Bool.not_eq_true', List.isEmpty_eq_false_iff_exists_mem]
    exact ⟨.int (j : Int), List.mem_filter.mpr ⟨mem_plc.mpr ⟨j, h2, rfl⟩, h3⟩⟩
/-! ### the finds -/
theorem gIn_bl2 {k : Bool} {a b : Bool} : gIn (.bl k) (.lst [.bl a, .bl b]) S = .ok (.bl ((a == k) || (b == k))) S := by
  cases k <;> cases a <;> cases b <;> rfl
theorem gIn_bl1 {k : Bool} {a : Bool} : gIn (.bl k) (.lst [.bl a]) S = .ok (.bl (a == k)) S := by
  cases k <;> cases a <;> rfl
theorem gNotIn_bl2 {k : Bool} {a b : Bool} : gNotIn (.bl k) (.lst [.bl a, .bl b]) S = .ok (.bl (!((a == k) || (b == k)))) S := by
  cases k <;> cases a <;> cases b <;> rfl
theorem gNotIn_bl1 {k : Bool} {a : Bool} : gNotIn (.bl k) (.lst [.bl a]) S = .ok (.bl (!(a == k))) S := by
  cases k <;> cases a <;> rfl
/-- the loop of near and before -/
theorem near_loop {t : Cs} {v w g : Nat} {nr : Bool} {nm : Cs} (hnm : (nm == sNear) = nr) {q : D} {ρ : Env} {P : Ctl → Store → Prop}
    {x4 x8 : Option D} (hρ : ρ = [some q, some (.str t), some (.lst (plc t [v])), some (.lst (plc t [w])), x4, some (.str nm), some (.tup [.str [v], .str [w], .int g]), none, x8, none, none])
    (hl : t.length ≤ lim) (ht : (clo t v w g || (nr && clo t w v g)) = true → P (.ret (.bl true)) S) (hf : (clo t v w g || (nr && clo t w v g)) = false → ∀ ρ, P (.next ρ) S) :
    Wp (forL (gName 4) (sSeq (sAsg (dBin gAdd (dBin gIdx (dVar 6) (dC (.int 2))) (dC (.int 1))) (gName 8))
    (sIf (tVal (dBin gNe (dComp (iVal (dVar 3)) (gName 10) [10] (tOr (tVal (dChain gLt gLe (dC (.int 0)) (dBin gSub (dVar 10) (dVar 4)) (dVar 8))) (tAnd (tVal (dBin gEq (dVar 5) (dC (.str [110, 101, 97, 114])))) (tVal (dChain gLt gLe (dC (.int 0)) (dBin gSub (dVar 4) (dVar 10)) (dVar 8))))) (dVar 10)) (dLst [])))
    (sRet (dC (.bl true)))
    sNil)) (plc t [v]) ρ S) P fun _ _ => False := by
  rw [← hit_iff] at ht hf
  have hsub : ∀ d ∈ plc t [v], d ∈ plc t [v] := fun _ h => h
  revert ht hf
  generalize hgen : (plc t [v]).any (hit t w nr (g : Int)) = res
  intro ht hf
  refine w_forL (fun ds ρ S1 => S1 = S ∧ (∀ d ∈ ds, d ∈ plc t [v]) ∧ ds.any (hit t w nr (g : Int)) = res ∧ ∃ x4 x8, ρ = [some q, some (.str t), some (.lst (plc t [v])), some (.lst (plc t [w])), x4, some (.str nm), some (.tup [.str [v], .str [w], .int g]), none, x8, none, none]) ⟨rfl, hsub, hgen, x4, x8, hρ⟩ ?_ ?_
  · rintro ρ S1 ⟨rfl, _, h, _⟩
    exact hf (by simpa using h.symm) ρ
  · rintro d ds ρ S1 ⟨rfl, hm, hr, y4, y8, rfl⟩
    obtain ⟨p, hp, rfl⟩ := mem_plc.mp (hm d (List.mem_cons_self ..))
    have hm' : ∀ d ∈ ds, d ∈ plc t [v] := fun x hx => hm x (List.mem_cons_of_mem _ hx)
    walk_at "wf all"
    walk_at "wf op"
    walk_at "wf op"
    have hlp : (plc t [w]).length ≤ lim := Nat.le_trans (List.length_filter_le ..) (by rw [rng_len]; exact hl)
    refine ⟨plc t [w], .inl rfl, rfl, hlp, ?_⟩
    refine wp_eq (compL_pure (hitH nr (g : Int) (p : Int)) id ?_) ?_
    · · intro d hd
        obtain ⟨k, hk, rfl⟩ := mem_plc.mp hd
        refine ⟨_, rfl, wp_to ?_, fun _ => rfl⟩
        have hz : hitH nr (g : Int) (p : Int) (.int (k : Int)) = ((decide (0 < (k : Int) - p) && decide ((k : Int) - p ≤ (g : Int) + 1)) || (nr && (decide (0 < (p : Int) - k) && decide ((p : Int) - k ≤ (g : Int) + 1)))) := rfl
        rw [hz]
        have second : ∀ {PB : Bool → Store → Prop}, PB (nr && (decide (0 < (p : Int) - k) && decide ((p : Int) - k ≤ (g : Int) + 1))) S1 →
            Wp (tAnd (tVal (dBin gEq (dVar 5) (dC (.str [110, 101, 97, 114])))) (tVal (dChain gLt gLe (dC (.int 0)) (dBin gSub (dVar 4) (dVar 10)) (dVar 8)))
              ((wipe (List.set (List.set [some q, some (.str t), some (.lst (plc t [v])), some (.lst (plc t [w])), y4, some (.str nm), some (.tup [.str [v], .str [w], .int g]), none, y8, none, none] 4 (some (.int (p : Int)))) 8 (some (.int ((g : Int) + 1)))) [10]).set 10 (some (.int (k : Int)))) S1) PB fun _ _ => False := by
          intro PB h
          walk_at "wf all"
          refine wp_eq gEq_str ?_
          refine ⟨_, rfl, fun e => ?_, fun e => ?_⟩
          · have e' : nr = true := by rw [← hnm]; exact e
            rw [e', Bool.true_and] at h
            walk_at "wf all"
            walk_at "wf op"
            walk_at "wf op"
            refine ⟨_, rfl, fun e => ?_, fun e => ?_⟩
            · walk_at "wf all"
              walk_at "wf op"
              refine ⟨_, rfl, ?_⟩
              rw [e, Bool.true_and] at h
              exact h
            · refine ⟨_, rfl, ?_⟩
              rw [e, Bool.false_and] at h
              exact h
          · have e' : nr = false := by rw [← hnm]; exact e
            rw [e', Bool.false_and] at h
            exact h
        refine w_tor ?_
        walk_at "wf all"
        walk_at "wf op"
        walk_at "wf op"
        refine ⟨_, rfl, fun e => ?_, fun e => ?_⟩
        · walk_at "wf all"
          walk_at "wf op"
          refine ⟨_, rfl, fun e2 => ?_, fun e2 => ?_⟩
          · refine second ?_
            rw [e, e2]
            simp
          · rw [e, e2]
            simp
        · refine ⟨_, rfl, fun _ => ?_, fun z => nomatch z⟩
          refine second ?_
          rw [e]
          simp
    · rw [List.map_id]
      walk_at "wf all"
      refine wp_eq (gNe_nil fun d hd => plc_int d (List.mem_filter.mp hd).1) ?_
      refine ⟨_, rfl, fun e => ?_, fun e => ?_⟩
      · walk_at "wf all"
        refine ht ?_
        rw [← hr, List.any_cons]
        simp only [hit, e, Bool.true_or]
      · walk_at "wf all"
        refine ⟨rfl, hm', ?_, _, _, rfl⟩
        rw [← hr, List.any_cons]
        simp only [hit, e, Bool.false_or]
theorem cut0 {t : Cs} : cut t none (some 1) = t.take 1 := by
  cases t with
  | nil => rfl
  | cons c t =>
    show ((c :: t).drop (sIx _ 0 none)).take (sIx (c :: t).length _ (some ((1 : Nat) : Int)) - sIx (c :: t).length 0 none) = _
    rw [sIx_nat]
    simp [sIx]
theorem cutE {t : Cs} {c : Nat} : (cut t (some (-1)) none == [c]) = match t.getLast? with
    | some x => x == c
    | none => false := by
  rcases List.eq_nil_or_concat t with h | ⟨l, x, h⟩
  · subst h; rfl
  · subst h
    have : cut (l.concat x) (some (-1)) none = [x] := by
      have e : sIx (l.concat x).length 0 (some (-1)) = l.length := by
        simp [sIx]
        omega
      unfold cut
      rw [e]
      simp [sIx]
    rw [this]
    simp
/-- the comprehension over a question's parts -/
theorem parts1 {F : FF} {x t : D} {b : Bool} {ρ : Env} (h1 : ρ[6]? = some (some (.tup [x]))) (h2 : ρ[1]? = some (some t)) (h3 : 9 < ρ.length) (hx : F [x, t] S = .ok (.bl b) S) :
    dComp (iVal (dVar 6)) (gName 9) [9] tYes (dCall F [(dVar 9), (dVar 1)]) ρ S = .ok (.lst [.bl b]) S := by
  rw [comp_pure (ds := [x]) (fun _ => true) (fun _ => .bl b)]
  · rfl
  · simp [iVal, dVar, h1]
  · simp [lim]
  · intro d hd
    have : d = x := by simpa using hd
    subst this
    refine ⟨_, rfl, rfl, fun _ => ?_⟩
    simp [dCall, evalAll, dVar, wipe, List.getElem?_set, h2, h3, hx]
theorem parts2 {F : FF} {x y t : D} {b c : Bool} {ρ : Env} (h1 : ρ[6]? = some (some (.tup [x, y]))) (h2 : ρ[1]? = some (some t)) (h3 : 9 < ρ.length) (hx : F [x, t] S = .ok (.bl b) S) (hy : F [y, t] S = .ok (.bl c) S) :
    dComp (iVal (dVar 6)) (gName 9) [9] tYes (dCall F [(dVar 9), (dVar 1)]) ρ S = .ok (.lst [.bl b, .bl c]) S := by
  have e1 : ∀ d, ((wipe ρ [9]).set 9 (some d))[9]? = some (some d) := fun d => by simp [wipe, List.getElem?_set, h3]
  have e2 : ∀ d, ((wipe ρ [9]).set 9 (some d))[1]? = some (some t) := fun d => by simp [wipe, List.getElem?_set, h2]
  simp only [dComp, iVal, dVar, h1, Res.ok_bind]
  rw [if_pos (by simp [lim])]
  simp only [compL, gName, tYes, dCall, evalAll, dVar, e1, e2, Res.ok_bind, Res.ok_noex, hx, hy, if_true]
theorem law_finds_ok : ∀ {n : Nat} {q : Q} {t : Cs}, q.wf → q.depth ≤ n → t.length ≤ lim → L_finds n [q.enc, .str t] S = .ok (.bl (q.ev t)) S
  | 0, q, _, _, h, _ => by have := q.depth_pos; omega
  | n + 1, q, t, hw, h, hl => by
    refine wp_to ?_
    cases q with
    | not p =>
      unfold L_finds
      refine w_run ?_
      walk_at "wf go0"
      refine wp_eq (parts1 (x := p.enc) (t := .str t) (b := p.ev t) rfl rfl (Nat.le_of_ble_eq_true rfl) (law_finds_ok (q := p) hw (by simp [Q.depth] at h; omega) hl)) ?_
      walk_at "wf go0"
      exact ⟨rfl, rfl⟩
    | and p q =>
      unfold L_finds
      refine w_run ?_
      walk_at "wf go0"
      refine wp_eq (parts2 (x := p.enc) (y := q.enc) (t := .str t) (b := p.ev t) (c := q.ev t) rfl rfl (Nat.le_of_ble_eq_true rfl) (law_finds_ok (q := p) hw.1 (by simp [Q.depth] at h; omega) hl) (law_finds_ok (q := q) hw.2 (by simp [Q.depth] at h; omega) hl)) ?_
      walk_at "wf go0"
      refine ⟨?_, rfl⟩
      simp only [Q.ev]
      cases p.ev t <;> cases q.ev t <;> rfl
    | or p q =>
      unfold L_finds
      refine w_run ?_
      walk_at "wf go0"
      refine wp_eq (parts2 (x := p.enc) (y := q.enc) (t := .str t) (b := p.ev t) (c := q.ev t) rfl rfl (Nat.le_of_ble_eq_true rfl) (law_finds_ok (q := p) hw.1 (by simp [Q.depth] at h; omega) hl) (law_finds_ok (q := q) hw.2 (by simp [Q.depth] at h; omega) hl)) ?_
      walk_at "wf go0"
      refine ⟨?_, rfl⟩
      simp only [Q.ev]
      cases p.ev t <;> cases q.ev t <;> rfl
    | often c n =>
      unfold L_finds
      refine w_run ?_
      walk_at "wf go0"
      refine wp_eq (plc_comp (s := [c]) (j := 0) hl rfl rfl rfl fun _ => rfl) ?_
      walk_at "wf go0"
      refine ⟨?_, rfl⟩
      rw [plc_count]
      rfl
    | row s =>
      unfold L_finds
      refine w_run ?_
      walk_at "wf go0"
      refine wp_eq (plc_comp (s := s) (j := 0) hl rfl rfl rfl fun _ => rfl) ?_
      walk_at "wf go0"
      have hs : s ≠ [] := by
        intro e
        have := hw.2.1
        rw [e] at this
        simp at this
      have hs2 : s.length ≤ lim := by have := hw.2.2; simp [lim]; omega
      refine wp_eq (comp_pure (ds := rngD 0 t.length) (rowH t s) id ?_ ?_ ?_) ?_
      · refine wp_to ?_
        walk_at "wf go0"
        refine wp_eq (bLen_str hl) ?_
        have hlen : (t.length : Int) ≤ 16777216 := by simp [lim] at hl; omega
        exact ⟨_, rfl, by omega, hlen, by simp, rfl⟩
      · rw [rng_len]; exact hl
      · intro d hd
        obtain ⟨k, hk, rfl⟩ := mem_rng.mp hd
        refine ⟨_, rfl, wp_to ?_, fun _ => rfl⟩
        walk_at "wf go0"
        refine wp_eq (bLen_str hs2) ?_
        walk_at "wf go0"
        refine wp_eq (a := .str (cut t (some (k : Int)) (some ((k : Int) + (s.length : Int))))) (S := S) (by simp [gSlice, res, hl]) ?_
        walk_at "wf go0"
        exact ⟨rfl, rfl⟩
      · walk_at "wf go0"
        rw [List.map_id]
        refine wp_eq (gNe_nil fun d hd => ?_) ?_
        · obtain ⟨i, _, rfl⟩ := mem_rng.mp (List.mem_filter.mp hd).1
          trivial
        · rw [rowF_iff hs]
          exact ⟨rfl, rfl⟩
    | begin c =>
      unfold L_finds
      refine w_run ?_
      walk_at "wf go0"
      refine wp_eq (plc_comp (s := [c]) (j := 0) hl rfl rfl rfl fun _ => rfl) ?_
      walk_at "wf go0"
      refine wp_eq (bLen_str hl) ?_
      cases t with
      | nil =>
        walk_at "wf go0"
        exact ⟨rfl, rfl⟩
      | cons x t =>
        walk_at "wf go0"
        refine ⟨fun _ => ?_, fun e => ?_⟩
        · walk_at "wf go0"
          refine wp_eq (gIdx_str (i := 0) (c := x) hl rfl) ?_
          walk_at "wf go0"
          refine ⟨?_, rfl⟩
          simp [Q.ev, cut0, res, D.eqv]
        · have := of_decide_eq_false e
          simp at this
    | end_ c =>
      unfold L_finds
      refine w_run ?_
      walk_at "wf go0"
      refine wp_eq (plc_comp (s := [c]) (j := 0) hl rfl rfl rfl fun _ => rfl) ?_
      walk_at "wf go0"
      refine wp_eq (bLen_str hl) ?_
      rcases List.eq_nil_or_concat t with ht | ⟨l, x, ht⟩
      · subst ht
        walk_at "wf go0"
        exact ⟨rfl, rfl⟩
      · have hlen : t.length = l.length + 1 := by rw [ht]; simp
        have hx : t[l.length]? = some x := by rw [ht]; simp
        have hg : t.getLast? = some x := by rw [ht]; simp
        walk_at "wf go0"
        refine ⟨fun _ => ?_, fun e => ?_⟩
        · walk_at "wf go0"
          refine wp_eq (bLen_str hl) ?_
          walk_at "wf go0"
          rw [hlen, show ((l.length + 1 : Nat) : Int) - 1 = (l.length : Int) by omega]
          refine wp_eq (gIdx_str hl hx) ?_
          walk_at "wf go0"
          refine ⟨?_, rfl⟩
          simp only [Q.ev, cutE, hg]
          simp [res, D.eqv]
        · have := of_decide_eq_false e
          omega
    | word c =>
      unfold L_finds
      refine w_run ?_
      walk_at "wf go0"
      refine wp_eq (plc_comp (s := [c]) (j := 0) hl rfl rfl rfl fun _ => rfl) ?_
      walk_at "wf go0"
      refine wp_eq (gNe_nil fun d hd => plc_int d hd) ?_
      refine ⟨?_, rfl⟩
      congr 1
      simp only [Q.ev, subIn_one]
      rw [Bool.eq_iff_iff]
      simp only [Bool.not_eq_true', List.isEmpty_eq_false_iff_exists_mem, List.contains_iff_mem]
      constructor
      · rintro ⟨d, hd⟩
        obtain ⟨i, hi, _⟩ := mem_plc.mp hd
        exact List.mem_of_getElem? hi
      · intro h
        obtain ⟨i, hi⟩ := List.mem_iff_getElem?.mp h
        exact ⟨_, mem_plc.mpr ⟨i, hi, rfl⟩⟩
    | near v w g =>
      unfold L_finds
      refine w_run ?_
      walk_at "wf go0"
      refine wp_eq (plc_comp (s := [v]) (j := 0) hl rfl rfl rfl fun _ => rfl) ?_
      walk_at "wf go0"
      refine wp_eq (plc_comp (s := [w]) (j := 1) hl rfl rfl rfl fun _ => rfl) ?_
      walk_at "wf go0"
      refine w_for ?_
      walk_at "wf go0"
      refine ⟨plc t [v], .inl rfl, rfl, ?_⟩
      refine near_loop (nm := sNear) (nr := true) (by decide) rfl hl (fun e => ?_) fun e ρ => ?_
      · refine nx_ret ?_
        refine ⟨?_, rfl⟩
        rw [show (Q.near v w g).ev t = (clo t v w g || (true && clo t w v g)) by simp [Q.ev, Bool.or_comm], e]
      · walk_at "wf go0"
        refine ⟨?_, rfl⟩
        rw [show (Q.near v w g).ev t = (clo t v w g || (true && clo t w v g)) by simp [Q.ev, Bool.or_comm], e]
    | before v w g =>
      unfold L_finds
      refine w_run ?_
      walk_at "wf go0"
      refine wp_eq (plc_comp (s := [v]) (j := 0) hl rfl rfl rfl fun _ => rfl) ?_
      walk_at "wf go0"
      refine wp_eq (plc_comp (s := [w]) (j := 1) hl rfl rfl rfl fun _ => rfl) ?_
      walk_at "wf go0"
      refine w_for ?_
      walk_at "wf go0"
      refine ⟨plc t [v], .inl rfl, rfl, ?_⟩
      refine near_loop (nm := sBefore) (nr := false) (by decide) rfl hl (fun e => ?_) fun e ρ => ?_
      · refine nx_ret ?_
        refine ⟨?_, rfl⟩
        rw [show (Q.before v w g).ev t = (clo t v w g || (false && clo t w v g)) by simp [Q.ev], e]
      · walk_at "wf go0"
        refine ⟨?_, rfl⟩
        rw [show (Q.before v w g).ev t = (clo t v w g || (false && clo t w v g)) by simp [Q.ev], e]
/-- what a text of the program's reads -/
theorem law_finds_t {q : Q} {t : Cs} (hw : q.wf) (hd : q.depth ≤ 3) (hl : t.length ≤ 60) : L_finds fuel [q.enc, .str t] S = .ok (.bl (q.ev t)) S :=
  law_finds_ok hw (fuel_le (by omega)) (by simp [lim]; omega)
end
end WF

set_option linter.all false
set_option maxRecDepth 100000
set_option maxHeartbeats 4000000
/-! # M02: the plain law of k02 -/
namespace WF
section
variable {S : Store}
theorem maxL_one {a : Int} : maxL [a] = some a := rfl
theorem law_depth_ok : ∀ {n : Nat} {q : Q}, q.depth ≤ n → L_depth n [q.enc] S = .ok (.int q.depth) S
  | 0, q, h => by have := q.depth_pos; omega
  | n + 1, q, h => by
    refine wp_to ?_
    have leaf : ∀ {x : Q}, x.depth = 1 → (∃ a : Nat, True) := fun _ => ⟨0, trivial⟩
    cases q with
    | not p =>
      have ih := law_depth_ok (n := n) (q := p) (by simp [Q.depth] at h; omega)
      unfold L_depth
      refine w_run ?_
      walk_at "wf go0"
      refine wp_eq (a := .lst [.int p.depth]) (S := S) ?_ ?_
      · rw [comp_pure (ds := [p.enc]) (fun _ => true) (fun _ => .int p.depth) rfl (by simp [lim])]
        · rfl
        · intro d hd
          have : d = p.enc := by simpa using hd
          subst this
          exact ⟨_, rfl, rfl, fun _ => ih⟩
      · walk_at "wf go0"
        refine ⟨?_, rfl⟩
        simp only [Q.depth, List.foldl]
        congr 1
        omega
    | and p q =>
      have ih := law_depth_ok (n := n) (q := p) (by simp [Q.depth] at h; omega)
      have ih2 := law_depth_ok (n := n) (q := q) (by simp [Q.depth] at h; omega)
      unfold L_depth
      refine w_run ?_
      walk_at "wf go0"
      have e1 : compL (gName 1) [1] tYes (dCall (L_depth n) [dVar 1]) (startE 2 [(Q.and p q).enc]) [p.enc, q.enc] S = .ok [.int p.depth, .int q.depth] S := by
        simp only [compL, gName, tYes, dCall, evalAll, dVar, wipe, startE, List.map_cons, List.map_nil, List.length_cons, List.length_nil, List.set_cons_succ, List.set_cons_zero, List.cons_append, List.nil_append, Nat.reduceAdd, Nat.reduceSub, List.replicate, List.getElem?_cons_succ, List.getElem?_cons_zero, Res.ok_bind, Res.ok_noex, ih, ih2, if_true]
      refine w_comp (wp_eq (a := ([p.enc, q.enc], none)) rfl ⟨rfl, by simp [lim], wp_eq e1 ?_⟩)
      · walk_at "wf go0"
        refine ⟨?_, rfl⟩
        simp only [Q.depth, List.foldl]
        congr 1
        split <;> omega
    | or p q =>
      have ih := law_depth_ok (n := n) (q := p) (by simp [Q.depth] at h; omega)
      have ih2 := law_depth_ok (n := n) (q := q) (by simp [Q.depth] at h; omega)
      unfold L_depth
      refine w_run ?_
      walk_at "wf go0"
      have e1 : compL (gName 1) [1] tYes (dCall (L_depth n) [dVar 1]) (startE 2 [(Q.or p q).enc]) [p.enc, q.enc] S = .ok [.int p.depth, .int q.depth] S := by
        simp only [compL, gName, tYes, dCall, evalAll, dVar, wipe, startE, List.map_cons, List.map_nil, List.length_cons, List.length_nil, List.set_cons_succ, List.set_cons_zero, List.cons_append, List.nil_append, Nat.reduceAdd, Nat.reduceSub, List.replicate, List.getElem?_cons_succ, List.getElem?_cons_zero, Res.ok_bind, Res.ok_noex, ih, ih2, if_true]
      refine w_comp (wp_eq (a := ([p.enc, q.enc], none)) rfl ⟨rfl, by simp [lim], wp_eq e1 ?_⟩)
      · walk_at "wf go0"
        refine ⟨?_, rfl⟩
        simp only [Q.depth, List.foldl]
        congr 1
        split <;> omega
    | word c => unfold L_depth; refine w_run ?_; walk_at "wf go"; exact ⟨rfl, rfl⟩
    | begin c => unfold L_depth; refine w_run ?_; walk_at "wf go"; exact ⟨rfl, rfl⟩
    | end_ c => unfold L_depth; refine w_run ?_; walk_at "wf go"; exact ⟨rfl, rfl⟩
    | row c => unfold L_depth; refine w_run ?_; walk_at "wf go"; exact ⟨rfl, rfl⟩
    | near c w g => unfold L_depth; refine w_run ?_; walk_at "wf go"; exact ⟨rfl, rfl⟩
    | before c w g => unfold L_depth; refine w_run ?_; walk_at "wf go"; exact ⟨rfl, rfl⟩
    | often c g => unfold L_depth; refine w_run ?_; walk_at "wf go"; exact ⟨rfl, rfl⟩
/-- a loop whose every turn goes on -/
theorem w_forAll {g : FG} {F : FS} {ds : List D} {ρ : Env} {PC : Ctl → Store → Prop} {E : Nat → Store → Prop} (Q : D → Prop) (J : Env → Prop) (hq : ∀ d ∈ ds, Q d) (h0 : J ρ) (hn : ∀ ρ, J ρ → PC (.next ρ) S)
    (hs : ∀ d ρ, Q d → J ρ → Wp (g d ρ S) (fun ρ1 S1 => Wp (F ρ1 S1) (fun c S2 => S2 = S ∧ ∃ ρ2, c = .next ρ2 ∧ J ρ2) E) E) : Wp (forL g F ds ρ S) PC E := by
  refine w_forL (fun ds ρ S1 => S1 = S ∧ (∀ d ∈ ds, Q d) ∧ J ρ) ⟨rfl, hq, h0⟩ ?_ ?_
  · rintro ρ S1 ⟨rfl, _, h⟩
    exact hn ρ h
  · rintro d ds ρ S1 ⟨rfl, h1, h2⟩
    refine (hs d ρ (h1 d (List.mem_cons_self ..)) h2).imp fun ρ1 S2 h => h.imp fun c S3 h => ?_
    obtain ⟨rfl, ρ2, rfl, h3⟩ := h
    exact ⟨rfl, fun x hx => h1 x (List.mem_cons_of_mem _ hx), h3⟩
theorem texts_of : ∀ {ds : List D} {m : Nat}, (∀ y ∈ ds, ∃ t, y = .str t ∧ okt t ∧ t.length ≤ m) → ∃ ts : List Cs, ds = ts.map .str ∧ ∀ t ∈ ts, okt t ∧ t.length ≤ m
  | [], m, _ => ⟨[], rfl, by simp⟩
  | d :: ds, m, h => by
    obtain ⟨t, rfl, ht⟩ := h d (List.mem_cons_self ..)
    obtain ⟨ts, rfl, hts⟩ := texts_of fun y hy => h y (List.mem_cons_of_mem _ hy)
    refine ⟨t :: ts, rfl, fun x hx => ?_⟩
    rcases List.mem_cons.mp hx with e | e
    · rw [e]; exact ht
    · exact hts x e
theorem eqvs_strs : ∀ ts : List Cs, D.eqvs (ts.map D.str) (ts.map D.str) = true
  | [] => rfl
  | t :: ts => by simp [D.eqvs, D.eqv, eqvs_strs ts]
theorem plains_strs : ∀ ts : List Cs, D.plains (ts.map D.str) = true
  | [] => rfl
  | t :: ts => by simp [D.plains, D.plain, plains_strs ts]
theorem depths_strs : ∀ ts : List Cs, D.depths (ts.map D.str) = 0
  | [] => rfl
  | t :: ts => by simp [D.depths, D.depth, depths_strs ts]
theorem gNe_strs {ts : List Cs} : gNe (.tup (ts.map D.str)) (.tup (ts.map D.str)) S = .ok (.bl false) S := by
  simp [gNe, gEq, res, D.plain, plains_strs, D.depth, depths_strs, D.eqv, eqvs_strs]
theorem gNe_bl {a b : Bool} : gNe (.bl a) (.bl b) S = .ok (.bl (!(a == b))) S := by
  simp [gNe, gEq, res, D.plain, D.depth, D.eqv]
theorem gEq_bl {a b : Bool} : gEq (.bl a) (.bl b) S = .ok (.bl (a == b)) S := by
  simp [gEq, res, D.plain, D.depth, D.eqv]
theorem gNe_int {a b : Int} : gNe (.int a) (.int b) S = .ok (.bl (!(a == b))) S := by
  simp [gNe, gEq, res, D.plain, D.depth, D.eqv]
/-- the filter of texts -/
theorem filter_strs {ts : List Cs} {F : FF} {f : Cs → Bool} {ρ : Env} {it : FI} {i j : Nat} {q : D} (hi : it ρ S = .ok (ts.map D.str, none) S) (hl : ts.length ≤ lim) (hj : j ≠ i) (hij : i < ρ.length) (hq : ρ[j]? = some (some q)) (h : ∀ t ∈ ts, F [q, .str t] S = .ok (.bl (f t)) S) :
    dComp it (gName i) [i] (tVal (dCall F [dVar j, dVar i])) (dVar i) ρ S = .ok (.lst ((ts.filter f).map D.str)) S := by
  rw [comp_pure (ds := ts.map D.str) (fun d => match d with | .str t => f t | _ => false) id hi (by simpa using hl)]
  · rw [List.map_id, List.filter_map]
    rfl
  · intro d hd
    obtain ⟨t, ht, rfl⟩ := List.mem_map.mp hd
    have e1 : ((wipe ρ [i]).set i (some (.str t)))[i]? = some (some (.str t)) := by simp [wipe, List.getElem?_set, hij]
    have e2 : ((wipe ρ [i]).set i (some (.str t)))[j]? = some (some q) := by simp [wipe, List.getElem?_set, hq, Ne.symm hj]
    refine ⟨_, rfl, ?_, fun _ => ?_⟩
    · simp only [tVal, dCall, evalAll, dVar, e1, e2, Res.ok_bind, h t ht]
    · simp only [dVar, e1, id]
section
theorem found_among_ok {q : Q} {ts : List Cs} (hw : q.wf) (hd : q.depth ≤ 3) (hl : ts.length ≤ 20) (ht : ∀ t ∈ ts, okt t ∧ t.length ≤ 60) : P_found_among [q.enc, .tup (ts.map D.str)] S = .ok (.tup ((ts.filter q.ev).map D.str)) S := by
  refine wp_to ?_
  unfold P_found_among
  refine w_run ?_
  walk_at "wf all"
  refine wp_eq (check_q hw hd) ?_
  walk_at "wf go0"
  simp only [List.length_map]
  have e : decide ((20 : Int) < (ts.length : Int)) = false := decide_eq_false (by omega)
  rw [e]
  walk_at "wf go0"
  refine wp_eq (a := .lst ((ts.map fun _ => true).map D.bl)) (S := S) ?_ ?_
  · rw [comp_pure (ds := ts.map D.str) (fun _ => true) (fun _ => .bl true) rfl (by simp [lim]; omega)]
    · rw [filter_true]; simp
    · intro d hd
      obtain ⟨t, ht', rfl⟩ := List.mem_map.mp hd
      refine ⟨_, rfl, rfl, fun _ => ?_⟩
      have := ht t ht'
      exact are_words_t (S := S) (lo := 0) (hi := 60) this.1 (by omega) this.2 (by decide)
  · walk_at "wf all"
    refine wp_eq bAll_ok ?_
    have : (ts.map fun _ => true).all id = true := by simp
    rw [this]
    walk_at "wf go0"
    refine wp_eq (filter_strs (ts := ts) (F := P_does_find fuel) (f := q.ev) (i := 2) (j := 0) (q := q.enc) rfl (by simp [lim]; omega) (by decide) (Nat.le_of_ble_eq_true rfl) rfl fun t h => does_find_ok (fuel_le (by omega)) (by have := (ht t h).2; simp [lim]; omega)) ?_
    walk_at "wf go0"
    exact ⟨rfl, rfl⟩
end
theorem row_two {t : Cs} {v w : Nat} : subIn [v, w] t = clo t v w 0 := by
  rw [Bool.eq_iff_iff, clo_iff, subIn_iffM (by simp)]
  constructor
  · rintro ⟨k, hk, h⟩
    have e0 : ((t.drop k).take 2)[0]? = some v := by rw [show [v, w].length = 2 from rfl] at h; rw [h]; rfl
    have e1 : ((t.drop k).take 2)[1]? = some w := by rw [show [v, w].length = 2 from rfl] at h; rw [h]; rfl
    rw [List.getElem?_take, if_pos (by decide), List.getElem?_drop] at e0 e1
    exact ⟨k, k + 1, e0, e1, by omega, by omega⟩
  · rintro ⟨i, j, h1, h2, h3, h4⟩
    have : j = i + 1 := by omega
    subst this
    have hi : i < t.length := by
      rcases Nat.lt_or_ge i t.length with z | z
      · exact z
      · rw [List.getElem?_eq_none z] at h1; cases h1
    have hj : i + 1 < t.length := by
      rcases Nat.lt_or_ge (i + 1) t.length with z | z
      · exact z
      · rw [List.getElem?_eq_none z] at h2; cases h2
    refine ⟨i, hi, ?_⟩
    rw [List.drop_eq_getElem_cons hi, List.drop_eq_getElem_cons hj]
    rw [List.getElem?_eq_getElem hi] at h1
    rw [List.getElem?_eq_getElem hj] at h2
    simp at h1 h2
    simp [h1, h2]
section
theorem law_true (ns : List Int) (hns : ns.length ≤ 63) : ∃ S, L_law [.lst (ns.map D.int)] [] = .ok (.bl true) S := by
  have main : Wp (L_law [.lst (ns.map D.int)] []) (fun d _ => d = .bl true) fun _ _ => False := by
    unfold L_law
    refine w_run ?_
    walk_at "wf all"
    refine town_ok ns hns [] rfl fun S h1 => ?_
    walk_at "wf all"
    refine question_ok (d := 3) (b := 999999000) (by decide) (fuel_le (by decide)) (h1.mono (by decide)) fun q S hq hqd h1 => ?_
    walk_at "wf go0"
    refine w_comp (wp_eq (a := (rngD 0 12, none)) rfl ⟨rfl, by simp [rng_len, lim], ?_⟩)
    refine (w_compL (fun n S => Tn ns.length (999990000 + 100 * n) [] S) (fun y => ∃ t, y = .str t ∧ okt t ∧ t.length ≤ 9) (h1.mono (by rw [rng_len]; omega)) ?_).imp ?_
    · intro d n S h
      walk_at "wf all"
      exact text_ok (b := 999990000 + 100 * n) (m := 9) (by decide) (h.mono (by omega)) fun t S2 h1 h2 h3 => ⟨⟨t, rfl, h1, h2⟩, h3⟩
    rintro ys S ⟨hyl, hy, h1⟩
    rw [rng_len] at hyl
    obtain ⟨ts, rfl, hts⟩ := texts_of hy
    rw [List.length_map] at hyl
    have hts' : ∀ t ∈ ts, okt t ∧ t.length ≤ 60 := fun t h => ⟨(hts t h).1, by have := (hts t h).2; omega⟩
    have hQ : ∀ d ∈ ts.map D.str, ∃ t, d = .str t ∧ okt t ∧ t.length ≤ 60 := by
      intro d hd
      obtain ⟨t, ht, rfl⟩ := List.mem_map.mp hd
      exact ⟨t, rfl, hts' t ht⟩
    walk_at "wf go0"
    refine w_for (wp_eq (a := (ts.map D.str, none)) rfl ⟨rfl, ?_⟩)
    refine w_forAll (S := S) (fun d => ∃ t, d = .str t ∧ okt t ∧ t.length ≤ 60) (fun ρ => ∃ x, ρ = [some (.lst (ns.map D.int)), some (.loc 0), some q.enc, some (.tup (ts.map D.str)), x, none, none, none, none, none, none]) hQ ⟨_, rfl⟩ ?_ ?_
    rotate_left
    · rintro d ρ ⟨t, rfl, ht, hl⟩ ⟨x, rfl⟩
      walk_at "wf all"
      refine wp_eq (finds_ok hq hqd ht hl) ?_
      walk_at "wf all"
      refine wp_eq (law_finds_t hq hqd hl) ?_
      refine wp_eq gNe_bl ?_
      rw [beq_self_eq_true]
      walk_at "wf go0"
      exact ⟨rfl, _, rfl, _, rfl⟩
    rintro ρ ⟨x, rfl⟩
    walk_at "wf all"
    refine wp_eq (found_among_ok hq hqd (by omega) hts') ?_
    walk_at "wf go0"
    refine wp_eq (filter_strs (ts := ts) (F := L_finds fuel) (f := q.ev) (i := 4) (j := 2) (q := q.enc) rfl (by simp [lim]; omega) (by decide) (Nat.le_of_ble_eq_true rfl) rfl fun t h => law_finds_t hq hqd (hts' t h).2) ?_
    walk_at "wf all"
    refine wp_eq rfl ?_
    refine wp_eq gNe_strs ?_
    walk_at "wf go0"
    refine wp_eq (depth_ok hq hqd) ?_
    walk_at "wf go0"
    refine wp_eq (law_depth_ok (fuel_le (by omega))) ?_
    refine wp_eq gNe_int ?_
    rw [beq_self_eq_true]
    walk_at "wf go0"
    refine wp_eq (depth_ok hq hqd) ?_
    walk_at "wf go0"
    rw [show decide ((3 : Int) < (q.depth : Int)) = false from decide_eq_false (by omega)]
    walk_at "wf go0"
    refine wp_eq (found_among_ok (ts := []) hq hqd (by decide) (by simp)) ?_
    walk_at "wf go0"
    refine question_ok (d := 2) (b := 999980000) (by decide) (fuel_le (by decide)) (h1.mono (by decide)) fun one S h2 h3 h1 => ?_
    walk_at "wf all"
    refine question_ok (d := 2) (b := 999970000) (by decide) (fuel_le (by decide)) (h1.mono (by decide)) fun other S h4 h5 h1 => ?_
    walk_at "wf go0"
    refine w_for (wp_eq (a := (ts.map D.str, none)) rfl ⟨rfl, ?_⟩)
    refine w_forAll (S := S) (fun d => ∃ t, d = .str t ∧ okt t ∧ t.length ≤ 60) (fun ρ => ∃ x y, ρ = [some (.lst (ns.map D.int)), some (.loc 0), some q.enc, some (.tup (ts.map D.str)), x, some one.enc, some other.enc, y, none, none, none]) hQ ⟨_, _, rfl⟩ ?_ ?_
    rotate_left
    · rintro d ρ ⟨t, rfl, ht, hl⟩ ⟨x, y, rfl⟩
      walk_at "wf all"
      refine wp_eq (finds_ok h2 (by omega) ht hl) ?_
      walk_at "wf all"
      refine wp_eq (finds_ok h4 (by omega) ht hl) ?_
      walk_at "wf all"
      refine wp_eq (finds_ok (q := .and one other) ⟨h2, h4⟩ (by simp [Q.depth]; omega) ht hl) ?_
      simp only [Q.ev]
      have hn := finds_ok (S := S) (q := .not one) h2 (by simp [Q.depth]; omega) ht hl
      have ho := finds_ok (S := S) (q := .or one other) ⟨h2, h4⟩ (by simp [Q.depth]; omega) ht hl
      simp only [Q.ev] at hn ho
      revert hn ho
      generalize one.ev t = a
      generalize other.ev t = b
      intro hn ho
      cases a <;> cases b
      all_goals
        walk_at "wf go0"
        refine wp_eq hn ?_
        walk_at "wf go0"
        refine wp_eq ho ?_
        walk_at "wf go0"
        exact ⟨rfl, _, rfl, _, _, rfl⟩
    rintro ρ ⟨x, y, rfl⟩
    walk_at "wf all"
    refine word_ok (b := 999960000) (h1.mono (by decide)) fun v S hv h1 => ?_
    walk_at "wf all"
    refine word_ok (b := 999950000) (h1.mono (by decide)) fun w S hw h1 => ?_
    walk_at "wf go0"
    refine w_for (wp_eq (a := (ts.map D.str, none)) rfl ⟨rfl, ?_⟩)
    refine w_forAll (S := S) (fun d => ∃ t, d = .str t ∧ okt t ∧ t.length ≤ 60) (fun ρ => ∃ x, ρ = [some (.lst (ns.map D.int)), some (.loc 0), some q.enc, some (.tup (ts.map D.str)), x, some one.enc, some other.enc, y, some (.str [v]), some (.str [w]), none]) hQ ⟨_, rfl⟩ ?_ ?_
    rotate_left
    · rintro d ρ ⟨t, rfl, ht, hl⟩ ⟨x, rfl⟩
      walk_at "wf all"
      refine wp_eq (finds_ok (q := .near v w 1) ⟨hv, hw, by decide⟩ (by simp [Q.depth]) ht hl) ?_
      walk_at "wf all"
      refine wp_eq (finds_ok (q := .or (.before v w 1) (.before w v 1)) ⟨⟨hv, hw, by decide⟩, ⟨hw, hv, by decide⟩⟩ (by simp [Q.depth]) ht hl) ?_
      refine wp_eq gNe_bl ?_
      rw [show (!((Q.near v w 1).ev t == (Q.or (.before v w 1) (.before w v 1)).ev t)) = false by simp [Q.ev, Bool.or_comm]]
      walk_at "wf go0"
      refine wp_eq (finds_ok (q := .row [v, w]) ⟨by simp; exact ⟨hv, hw⟩, by simp, by simp⟩ (by simp [Q.depth]) ht hl) ?_
      walk_at "wf go0"
      refine wp_eq (finds_ok (q := .before v w 0) ⟨hv, hw, by decide⟩ (by simp [Q.depth]) ht hl) ?_
      refine wp_eq gNe_bl ?_
      rw [show (!((Q.row [v, w]).ev t == (Q.before v w 0).ev t)) = false by simp [Q.ev, row_two]]
      walk_at "wf go0"
      exact ⟨rfl, _, rfl, _, rfl⟩
    rintro ρ ⟨x, rfl⟩
    walk_at "wf go0"
    rfl
  obtain ⟨a, S, e, rfl⟩ := main.ex
  exact ⟨S, e⟩
end
end
end WF

set_option Elab.async false
set_option linter.all false
set_option maxRecDepth 100000
set_option maxHeartbeats 4000000
namespace WF
open PySem L2 PyProof.Rows
theorem all_mk {l : PySem.W.OpenLaw} {w : World} {K : PySem.W.Frag} {h : Heap} {mg : PySem.Str → Option Value} {fa : Addr} (X : K.In h) (G : h.Ns mainGlobals mg) (hfa : mg "law" = some (.ref fa)) {C_InvalidQuestion C_InvalidText C_InvalidTexts f_is_between f_are_words f_is_simple f_is_at_most f_is_question f_check_question f_check_text f_depth_of f_depth f_are_close f_does_find f_finds f_found_among f__law_town f__law_draw f__law_pick f__law_word f__law_simple f__law_question f__law_text f__law_finds f__law_depth f_law : Addr}
    (z_all : PySem.W.nsIn K mainGlobals "all" = some none)
    (z_any : PySem.W.nsIn K mainGlobals "any" = some none)
    (z_bool : PySem.W.nsIn K mainGlobals "bool" = some none)
    (z_enumerate : PySem.W.nsIn K mainGlobals "enumerate" = some none)
    (z_int : PySem.W.nsIn K mainGlobals "int" = some none)
    (z_isinstance : PySem.W.nsIn K mainGlobals "isinstance" = some none)
    (z_len : PySem.W.nsIn K mainGlobals "len" = some none)
    (z_list : PySem.W.nsIn K mainGlobals "list" = some none)
    (z_max : PySem.W.nsIn K mainGlobals "max" = some none)
    (z_range : PySem.W.nsIn K mainGlobals "range" = some none)
    (z_str : PySem.W.nsIn K mainGlobals "str" = some none)
    (z_tuple : PySem.W.nsIn K mainGlobals "tuple" = some none)
    {tk_WORDS : Tok} (gc_WORDS : PySem.W.nsIn K mainGlobals "WORDS" = some (some (.str "abcd" tk_WORDS)))
    {tk_DEEP : Tok} (gc_DEEP : PySem.W.nsIn K mainGlobals "DEEP" = some (some (.int 3 tk_DEEP)))
    (xg_InvalidQuestion : PySem.W.nsIn K mainGlobals "InvalidQuestion" = some (some (.ref C_InvalidQuestion))) (xe_InvalidQuestion : PySem.W.excIn K C_InvalidQuestion [.type "ValueError", .type "Exception", .type "BaseException", .type "object"] "ValueError.__new__" = true) (xk_InvalidQuestion : PySem.W.keepIn K (.ref C_InvalidQuestion) = true) (xs_InvalidQuestion : PySem.W.subIn K (.ref C_InvalidQuestion) (.type "BaseException") = some true) (xt_InvalidQuestion : PySem.W.typeIn K (.ref C_InvalidQuestion) = some (.type "type"))
    (xg_InvalidText : PySem.W.nsIn K mainGlobals "InvalidText" = some (some (.ref C_InvalidText))) (xe_InvalidText : PySem.W.excIn K C_InvalidText [.type "ValueError", .type "Exception", .type "BaseException", .type "object"] "ValueError.__new__" = true) (xk_InvalidText : PySem.W.keepIn K (.ref C_InvalidText) = true) (xs_InvalidText : PySem.W.subIn K (.ref C_InvalidText) (.type "BaseException") = some true) (xt_InvalidText : PySem.W.typeIn K (.ref C_InvalidText) = some (.type "type"))
    (xg_InvalidTexts : PySem.W.nsIn K mainGlobals "InvalidTexts" = some (some (.ref C_InvalidTexts))) (xe_InvalidTexts : PySem.W.excIn K C_InvalidTexts [.type "ValueError", .type "Exception", .type "BaseException", .type "object"] "ValueError.__new__" = true) (xk_InvalidTexts : PySem.W.keepIn K (.ref C_InvalidTexts) = true) (xs_InvalidTexts : PySem.W.subIn K (.ref C_InvalidTexts) (.type "BaseException") = some true) (xt_InvalidTexts : PySem.W.typeIn K (.ref C_InvalidTexts) = some (.type "type"))
    {od_is_between an_is_between : Option Addr} {sl_is_between : Array (Option Value)} {oc_is_between kV_is_between dc_is_between pm_is_between cd_is_between ct_is_between : Value} (a_is_between : PySem.W.nsIn K mainGlobals "is_between" = some (some (.ref f_is_between))) (l_is_between : K.lookup f_is_between = some ⟨oc_is_between, od_is_between, .func (PySem.W.fnOf "is_between" "is_between" (defArgs (top 8)) (defBody (top 8)) (defScope (top 8)) .none kV_is_between dc_is_between pm_is_between an_is_between cd_is_between ct_is_between), sl_is_between⟩) (c_is_between : PySem.W.codeIn K cd_is_between "is_between" = true) (k_is_between : PySem.W.keepIn K (.ref f_is_between) = true)
    {od_are_words an_are_words : Option Addr} {sl_are_words : Array (Option Value)} {oc_are_words kV_are_words dc_are_words pm_are_words cd_are_words ct_are_words : Value} (a_are_words : PySem.W.nsIn K mainGlobals "are_words" = some (some (.ref f_are_words))) (l_are_words : K.lookup f_are_words = some ⟨oc_are_words, od_are_words, .func (PySem.W.fnOf "are_words" "are_words" (defArgs (top 9)) (defBody (top 9)) (defScope (top 9)) .none kV_are_words dc_are_words pm_are_words an_are_words cd_are_words ct_are_words), sl_are_words⟩) (c_are_words : PySem.W.codeIn K cd_are_words "are_words" = true) (k_are_words : PySem.W.keepIn K (.ref f_are_words) = true)
    {od_is_simple an_is_simple : Option Addr} {sl_is_simple : Array (Option Value)} {oc_is_simple kV_is_simple dc_is_simple pm_is_simple cd_is_simple ct_is_simple : Value} (a_is_simple : PySem.W.nsIn K mainGlobals "is_simple" = some (some (.ref f_is_simple))) (l_is_simple : K.lookup f_is_simple = some ⟨oc_is_simple, od_is_simple, .func (PySem.W.fnOf "is_simple" "is_simple" (defArgs (top 10)) (defBody (top 10)) (defScope (top 10)) .none kV_is_simple dc_is_simple pm_is_simple an_is_simple cd_is_simple ct_is_simple), sl_is_simple⟩) (c_is_simple : PySem.W.codeIn K cd_is_simple "is_simple" = true) (k_is_simple : PySem.W.keepIn K (.ref f_is_simple) = true)
    {od_is_at_most an_is_at_most : Option Addr} {sl_is_at_most : Array (Option Value)} {oc_is_at_most kV_is_at_most dc_is_at_most pm_is_at_most cd_is_at_most ct_is_at_most : Value} (a_is_at_most : PySem.W.nsIn K mainGlobals "is_at_most" = some (some (.ref f_is_at_most))) (l_is_at_most : K.lookup f_is_at_most = some ⟨oc_is_at_most, od_is_at_most, .func (PySem.W.fnOf "is_at_most" "is_at_most" (defArgs (top 11)) (defBody (top 11)) (defScope (top 11)) .none kV_is_at_most dc_is_at_most pm_is_at_most an_is_at_most cd_is_at_most ct_is_at_most), sl_is_at_most⟩) (c_is_at_most : PySem.W.codeIn K cd_is_at_most "is_at_most" = true) (k_is_at_most : PySem.W.keepIn K (.ref f_is_at_most) = true)
    {od_is_question an_is_question : Option Addr} {sl_is_question : Array (Option Value)} {oc_is_question kV_is_question dc_is_question pm_is_question cd_is_question ct_is_question : Value} (a_is_question : PySem.W.nsIn K mainGlobals "is_question" = some (some (.ref f_is_question))) (l_is_question : K.lookup f_is_question = some ⟨oc_is_question, od_is_question, .func (PySem.W.fnOf "is_question" "is_question" (defArgs (top 12)) (defBody (top 12)) (defScope (top 12)) .none kV_is_question dc_is_question pm_is_question an_is_question cd_is_question ct_is_question), sl_is_question⟩) (c_is_question : PySem.W.codeIn K cd_is_question "is_question" = true) (k_is_question : PySem.W.keepIn K (.ref f_is_question) = true)
    {od_check_question an_check_question : Option Addr} {sl_check_question : Array (Option Value)} {oc_check_question kV_check_question dc_check_question pm_check_question cd_check_question ct_check_question : Value} (a_check_question : PySem.W.nsIn K mainGlobals "check_question" = some (some (.ref f_check_question))) (l_check_question : K.lookup f_check_question = some ⟨oc_check_question, od_check_question, .func (PySem.W.fnOf "check_question" "check_question" (defArgs (top 13)) (defBody (top 13)) (defScope (top 13)) .none kV_check_question dc_check_question pm_check_question an_check_question cd_check_question ct_check_question), sl_check_question⟩) (c_check_question : PySem.W.codeIn K cd_check_question "check_question" = true) (k_check_question : PySem.W.keepIn K (.ref f_check_question) = true)
    {od_check_text an_check_text : Option Addr} {sl_check_text : Array (Option Value)} {oc_check_text kV_check_text dc_check_text pm_check_text cd_check_text ct_check_text : Value} (a_check_text : PySem.W.nsIn K mainGlobals "check_text" = some (some (.ref f_check_text))) (l_check_text : K.lookup f_check_text = some ⟨oc_check_text, od_check_text, .func (PySem.W.fnOf "check_text" "check_text" (defArgs (top 14)) (defBody (top 14)) (defScope (top 14)) .none kV_check_text dc_check_text pm_check_text an_check_text cd_check_text ct_check_text), sl_check_text⟩) (c_check_text : PySem.W.codeIn K cd_check_text "check_text" = true) (k_check_text : PySem.W.keepIn K (.ref f_check_text) = true)
    {od_depth_of an_depth_of : Option Addr} {sl_depth_of : Array (Option Value)} {oc_depth_of kV_depth_of dc_depth_of pm_depth_of cd_depth_of ct_depth_of : Value} (a_depth_of : PySem.W.nsIn K mainGlobals "depth_of" = some (some (.ref f_depth_of))) (l_depth_of : K.lookup f_depth_of = some ⟨oc_depth_of, od_depth_of, .func (PySem.W.fnOf "depth_of" "depth_of" (defArgs (top 15)) (defBody (top 15)) (defScope (top 15)) .none kV_depth_of dc_depth_of pm_depth_of an_depth_of cd_depth_of ct_depth_of), sl_depth_of⟩) (c_depth_of : PySem.W.codeIn K cd_depth_of "depth_of" = true) (k_depth_of : PySem.W.keepIn K (.ref f_depth_of) = true)
    {od_depth an_depth : Option Addr} {sl_depth : Array (Option Value)} {oc_depth kV_depth dc_depth pm_depth cd_depth ct_depth : Value} (a_depth : PySem.W.nsIn K mainGlobals "depth" = some (some (.ref f_depth))) (l_depth : K.lookup f_depth = some ⟨oc_depth, od_depth, .func (PySem.W.fnOf "depth" "depth" (defArgs (top 16)) (defBody (top 16)) (defScope (top 16)) .none kV_depth dc_depth pm_depth an_depth cd_depth ct_depth), sl_depth⟩) (c_depth : PySem.W.codeIn K cd_depth "depth" = true) (k_depth : PySem.W.keepIn K (.ref f_depth) = true)
    {od_are_close an_are_close : Option Addr} {sl_are_close : Array (Option Value)} {oc_are_close kV_are_close dc_are_close pm_are_close cd_are_close ct_are_close : Value} (a_are_close : PySem.W.nsIn K mainGlobals "are_close" = some (some (.ref f_are_close))) (l_are_close : K.lookup f_are_close = some ⟨oc_are_close, od_are_close, .func (PySem.W.fnOf "are_close" "are_close" (defArgs (top 17)) (defBody (top 17)) (defScope (top 17)) .none kV_are_close dc_are_close pm_are_close an_are_close cd_are_close ct_are_close), sl_are_close⟩) (c_are_close : PySem.W.codeIn K cd_are_close "are_close" = true) (k_are_close : PySem.W.keepIn K (.ref f_are_close) = true)
    {od_does_find an_does_find : Option Addr} {sl_does_find : Array (Option Value)} {oc_does_find kV_does_find dc_does_find pm_does_find cd_does_find ct_does_find : Value} (a_does_find : PySem.W.nsIn K mainGlobals "does_find" = some (some (.ref f_does_find))) (l_does_find : K.lookup f_does_find = some ⟨oc_does_find, od_does_find, .func (PySem.W.fnOf "does_find" "does_find" (defArgs (top 18)) (defBody (top 18)) (defScope (top 18)) .none kV_does_find dc_does_find pm_does_find an_does_find cd_does_find ct_does_find), sl_does_find⟩) (c_does_find : PySem.W.codeIn K cd_does_find "does_find" = true) (k_does_find : PySem.W.keepIn K (.ref f_does_find) = true)
    {od_finds an_finds : Option Addr} {sl_finds : Array (Option Value)} {oc_finds kV_finds dc_finds pm_finds cd_finds ct_finds : Value} (a_finds : PySem.W.nsIn K mainGlobals "finds" = some (some (.ref f_finds))) (l_finds : K.lookup f_finds = some ⟨oc_finds, od_finds, .func (PySem.W.fnOf "finds" "finds" (defArgs (top 19)) (defBody (top 19)) (defScope (top 19)) .none kV_finds dc_finds pm_finds an_finds cd_finds ct_finds), sl_finds⟩) (c_finds : PySem.W.codeIn K cd_finds "finds" = true) (k_finds : PySem.W.keepIn K (.ref f_finds) = true)
    {od_found_among an_found_among : Option Addr} {sl_found_among : Array (Option Value)} {oc_found_among kV_found_among dc_found_among pm_found_among cd_found_among ct_found_among : Value} (a_found_among : PySem.W.nsIn K mainGlobals "found_among" = some (some (.ref f_found_among))) (l_found_among : K.lookup f_found_among = some ⟨oc_found_among, od_found_among, .func (PySem.W.fnOf "found_among" "found_among" (defArgs (top 20)) (defBody (top 20)) (defScope (top 20)) .none kV_found_among dc_found_among pm_found_among an_found_among cd_found_among ct_found_among), sl_found_among⟩) (c_found_among : PySem.W.codeIn K cd_found_among "found_among" = true) (k_found_among : PySem.W.keepIn K (.ref f_found_among) = true)
    {od__law_town an__law_town : Option Addr} {sl__law_town : Array (Option Value)} {oc__law_town kV__law_town dc__law_town pm__law_town cd__law_town ct__law_town : Value} (a__law_town : PySem.W.nsIn K mainGlobals "_law_town" = some (some (.ref f__law_town))) (l__law_town : K.lookup f__law_town = some ⟨oc__law_town, od__law_town, .func (PySem.W.fnOf "_law_town" "_law_town" (defArgs (top 22)) (defBody (top 22)) (defScope (top 22)) .none kV__law_town dc__law_town pm__law_town an__law_town cd__law_town ct__law_town), sl__law_town⟩) (c__law_town : PySem.W.codeIn K cd__law_town "_law_town" = true) (k__law_town : PySem.W.keepIn K (.ref f__law_town) = true)
    {od__law_draw an__law_draw : Option Addr} {sl__law_draw : Array (Option Value)} {oc__law_draw kV__law_draw dc__law_draw pm__law_draw cd__law_draw ct__law_draw : Value} (a__law_draw : PySem.W.nsIn K mainGlobals "_law_draw" = some (some (.ref f__law_draw))) (l__law_draw : K.lookup f__law_draw = some ⟨oc__law_draw, od__law_draw, .func (PySem.W.fnOf "_law_draw" "_law_draw" (defArgs (top 23)) (defBody (top 23)) (defScope (top 23)) .none kV__law_draw dc__law_draw pm__law_draw an__law_draw cd__law_draw ct__law_draw), sl__law_draw⟩) (c__law_draw : PySem.W.codeIn K cd__law_draw "_law_draw" = true) (k__law_draw : PySem.W.keepIn K (.ref f__law_draw) = true)
    {od__law_pick an__law_pick : Option Addr} {sl__law_pick : Array (Option Value)} {oc__law_pick kV__law_pick dc__law_pick pm__law_pick cd__law_pick ct__law_pick : Value} (a__law_pick : PySem.W.nsIn K mainGlobals "_law_pick" = some (some (.ref f__law_pick))) (l__law_pick : K.lookup f__law_pick = some ⟨oc__law_pick, od__law_pick, .func (PySem.W.fnOf "_law_pick" "_law_pick" (defArgs (top 24)) (defBody (top 24)) (defScope (top 24)) .none kV__law_pick dc__law_pick pm__law_pick an__law_pick cd__law_pick ct__law_pick), sl__law_pick⟩) (c__law_pick : PySem.W.codeIn K cd__law_pick "_law_pick" = true) (k__law_pick : PySem.W.keepIn K (.ref f__law_pick) = true)
    {od__law_word an__law_word : Option Addr} {sl__law_word : Array (Option Value)} {oc__law_word kV__law_word dc__law_word pm__law_word cd__law_word ct__law_word : Value} (a__law_word : PySem.W.nsIn K mainGlobals "_law_word" = some (some (.ref f__law_word))) (l__law_word : K.lookup f__law_word = some ⟨oc__law_word, od__law_word, .func (PySem.W.fnOf "_law_word" "_law_word" (defArgs (top 25)) (defBody (top 25)) (defScope (top 25)) .none kV__law_word dc__law_word pm__law_word an__law_word cd__law_word ct__law_word), sl__law_word⟩) (c__law_word : PySem.W.codeIn K cd__law_word "_law_word" = true) (k__law_word : PySem.W.keepIn K (.ref f__law_word) = true)
    {od__law_simple an__law_simple : Option Addr} {sl__law_simple : Array (Option Value)} {oc__law_simple kV__law_simple dc__law_simple pm__law_simple cd__law_simple ct__law_simple : Value} (a__law_simple : PySem.W.nsIn K mainGlobals "_law_simple" = some (some (.ref f__law_simple))) (l__law_simple : K.lookup f__law_simple = some ⟨oc__law_simple, od__law_simple, .func (PySem.W.fnOf "_law_simple" "_law_simple" (defArgs (top 26)) (defBody (top 26)) (defScope (top 26)) .none kV__law_simple dc__law_simple pm__law_simple an__law_simple cd__law_simple ct__law_simple), sl__law_simple⟩) (c__law_simple : PySem.W.codeIn K cd__law_simple "_law_simple" = true) (k__law_simple : PySem.W.keepIn K (.ref f__law_simple) = true)
    {od__law_question an__law_question : Option Addr} {sl__law_question : Array (Option Value)} {oc__law_question kV__law_question dc__law_question pm__law_question cd__law_question ct__law_question : Value} (a__law_question : PySem.W.nsIn K mainGlobals "_law_question" = some (some (.ref f__law_question))) (l__law_question : K.lookup f__law_question = some ⟨oc__law_question, od__law_question, .func (PySem.W.fnOf "_law_question" "_law_question" (defArgs (top 27)) (defBody (top 27)) (defScope (top 27)) .none kV__law_question dc__law_question pm__law_question an__law_question cd__law_question ct__law_question), sl__law_question⟩) (c__law_question : PySem.W.codeIn K cd__law_question "_law_question" = true) (k__law_question : PySem.W.keepIn K (.ref f__law_question) = true)
    {od__law_text an__law_text : Option Addr} {sl__law_text : Array (Option Value)} {oc__law_text kV__law_text dc__law_text pm__law_text cd__law_text ct__law_text : Value} (a__law_text : PySem.W.nsIn K mainGlobals "_law_text" = some (some (.ref f__law_text))) (l__law_text : K.lookup f__law_text = some ⟨oc__law_text, od__law_text, .func (PySem.W.fnOf "_law_text" "_law_text" (defArgs (top 28)) (defBody (top 28)) (defScope (top 28)) .none kV__law_text dc__law_text pm__law_text an__law_text cd__law_text ct__law_text), sl__law_text⟩) (c__law_text : PySem.W.codeIn K cd__law_text "_law_text" = true) (k__law_text : PySem.W.keepIn K (.ref f__law_text) = true)
    {od__law_finds an__law_finds : Option Addr} {sl__law_finds : Array (Option Value)} {oc__law_finds kV__law_finds dc__law_finds pm__law_finds cd__law_finds ct__law_finds : Value} (a__law_finds : PySem.W.nsIn K mainGlobals "_law_finds" = some (some (.ref f__law_finds))) (l__law_finds : K.lookup f__law_finds = some ⟨oc__law_finds, od__law_finds, .func (PySem.W.fnOf "_law_finds" "_law_finds" (defArgs (top 29)) (defBody (top 29)) (defScope (top 29)) .none kV__law_finds dc__law_finds pm__law_finds an__law_finds cd__law_finds ct__law_finds), sl__law_finds⟩) (c__law_finds : PySem.W.codeIn K cd__law_finds "_law_finds" = true) (k__law_finds : PySem.W.keepIn K (.ref f__law_finds) = true)
    {od__law_depth an__law_depth : Option Addr} {sl__law_depth : Array (Option Value)} {oc__law_depth kV__law_depth dc__law_depth pm__law_depth cd__law_depth ct__law_depth : Value} (a__law_depth : PySem.W.nsIn K mainGlobals "_law_depth" = some (some (.ref f__law_depth))) (l__law_depth : K.lookup f__law_depth = some ⟨oc__law_depth, od__law_depth, .func (PySem.W.fnOf "_law_depth" "_law_depth" (defArgs (top 30)) (defBody (top 30)) (defScope (top 30)) .none kV__law_depth dc__law_depth pm__law_depth an__law_depth cd__law_depth ct__law_depth), sl__law_depth⟩) (c__law_depth : PySem.W.codeIn K cd__law_depth "_law_depth" = true) (k__law_depth : PySem.W.keepIn K (.ref f__law_depth) = true)
    {od_law an_law : Option Addr} {sl_law : Array (Option Value)} {oc_law kV_law dc_law pm_law cd_law ct_law : Value} (a_law : PySem.W.nsIn K mainGlobals "law" = some (some (.ref f_law))) (l_law : K.lookup f_law = some ⟨oc_law, od_law, .func (PySem.W.fnOf "law" "law" (defArgs (top 31)) (defBody (top 31)) (defScope (top 31)) .none kV_law dc_law pm_law an_law cd_law ct_law), sl_law⟩) (c_law : PySem.W.codeIn K cd_law "law" = true) (k_law : PySem.W.keepIn K (.ref f_law) = true) :
    ∃ fd : FuncData, (∀ (s : Shared) (v : Value), BindsTo s fd ⟨[v], []⟩ [("_law_script", v)]) ∧ ∀ base : Heap, K.In base → base.Ns mainGlobals mg → FnOk l.prog w K mg base (L2.CX l.prog w) 11 fa fd ["_law_script"] (spLaw K) := by
  have e := hfa.symm.trans (PySem.W.mg_of X G a_law)
  cases e
  have T : Txt K mg (fun i => match i with | 0 => C_InvalidQuestion | 1 => C_InvalidText | 2 => C_InvalidTexts | _ => 0) := ⟨PySem.W.mg_none_of X G z_all,
    PySem.W.mg_none_of X G z_any,
    PySem.W.mg_none_of X G z_bool,
    PySem.W.mg_none_of X G z_enumerate,
    PySem.W.mg_none_of X G z_int,
    PySem.W.mg_none_of X G z_isinstance,
    PySem.W.mg_none_of X G z_len,
    PySem.W.mg_none_of X G z_list,
    PySem.W.mg_none_of X G z_max,
    PySem.W.mg_none_of X G z_range,
    PySem.W.mg_none_of X G z_str,
    PySem.W.mg_none_of X G z_tuple,
    ⟨_, PySem.W.mg_of X G gc_WORDS⟩,
    ⟨_, PySem.W.mg_of X G gc_DEEP⟩,
    ⟨xe_InvalidQuestion, PySem.W.mg_of X G xg_InvalidQuestion, xk_InvalidQuestion, xs_InvalidQuestion, xt_InvalidQuestion⟩,
    ⟨xe_InvalidText, PySem.W.mg_of X G xg_InvalidText, xk_InvalidText, xs_InvalidText, xt_InvalidText⟩,
    ⟨xe_InvalidTexts, PySem.W.mg_of X G xg_InvalidTexts, xk_InvalidTexts, xs_InvalidTexts, xt_InvalidTexts⟩,
    ⟨_, _, fun_mk (st := top 8) l_is_between c_is_between k_is_between, PySem.W.mg_of X G a_is_between, (fun_mk (st := top 8) l_is_between c_is_between k_is_between).binds (ps := ["value", "low", "high"]) fun _ _ _ _ _ _ us hl => match us, hl with | [_, _, _], _ => rfl⟩,
    ⟨_, _, fun_mk (st := top 9) l_are_words c_are_words k_are_words, PySem.W.mg_of X G a_are_words, (fun_mk (st := top 9) l_are_words c_are_words k_are_words).binds (ps := ["value", "low", "high"]) fun _ _ _ _ _ _ us hl => match us, hl with | [_, _, _], _ => rfl⟩,
    ⟨_, _, fun_mk (st := top 10) l_is_simple c_is_simple k_is_simple, PySem.W.mg_of X G a_is_simple, (fun_mk (st := top 10) l_is_simple c_is_simple k_is_simple).binds (ps := ["value"]) fun _ _ _ _ _ _ us hl => match us, hl with | [_], _ => rfl⟩,
    ⟨_, _, fun_mk (st := top 11) l_is_at_most c_is_at_most k_is_at_most, PySem.W.mg_of X G a_is_at_most, (fun_mk (st := top 11) l_is_at_most c_is_at_most k_is_at_most).binds (ps := ["value", "deep"]) fun _ _ _ _ _ _ us hl => match us, hl with | [_, _], _ => rfl⟩,
    ⟨_, _, fun_mk (st := top 12) l_is_question c_is_question k_is_question, PySem.W.mg_of X G a_is_question, (fun_mk (st := top 12) l_is_question c_is_question k_is_question).binds (ps := ["value"]) fun _ _ _ _ _ _ us hl => match us, hl with | [_], _ => rfl⟩,
    ⟨_, _, fun_mk (st := top 13) l_check_question c_check_question k_check_question, PySem.W.mg_of X G a_check_question, (fun_mk (st := top 13) l_check_question c_check_question k_check_question).binds (ps := ["value"]) fun _ _ _ _ _ _ us hl => match us, hl with | [_], _ => rfl⟩,
    ⟨_, _, fun_mk (st := top 14) l_check_text c_check_text k_check_text, PySem.W.mg_of X G a_check_text, (fun_mk (st := top 14) l_check_text c_check_text k_check_text).binds (ps := ["value"]) fun _ _ _ _ _ _ us hl => match us, hl with | [_], _ => rfl⟩,
    ⟨_, _, fun_mk (st := top 15) l_depth_of c_depth_of k_depth_of, PySem.W.mg_of X G a_depth_of, (fun_mk (st := top 15) l_depth_of c_depth_of k_depth_of).binds (ps := ["question"]) fun _ _ _ _ _ _ us hl => match us, hl with | [_], _ => rfl⟩,
    ⟨_, _, fun_mk (st := top 16) l_depth c_depth k_depth, PySem.W.mg_of X G a_depth, (fun_mk (st := top 16) l_depth c_depth k_depth).binds (ps := ["question"]) fun _ _ _ _ _ _ us hl => match us, hl with | [_], _ => rfl⟩,
    ⟨_, _, fun_mk (st := top 17) l_are_close c_are_close k_are_close, PySem.W.mg_of X G a_are_close, (fun_mk (st := top 17) l_are_close c_are_close k_are_close).binds (ps := ["text", "v", "w", "gap"]) fun _ _ _ _ _ _ us hl => match us, hl with | [_, _, _, _], _ => rfl⟩,
    ⟨_, _, fun_mk (st := top 18) l_does_find c_does_find k_does_find, PySem.W.mg_of X G a_does_find, (fun_mk (st := top 18) l_does_find c_does_find k_does_find).binds (ps := ["question", "text"]) fun _ _ _ _ _ _ us hl => match us, hl with | [_, _], _ => rfl⟩,
    ⟨_, _, fun_mk (st := top 19) l_finds c_finds k_finds, PySem.W.mg_of X G a_finds, (fun_mk (st := top 19) l_finds c_finds k_finds).binds (ps := ["question", "text"]) fun _ _ _ _ _ _ us hl => match us, hl with | [_, _], _ => rfl⟩,
    ⟨_, _, fun_mk (st := top 20) l_found_among c_found_among k_found_among, PySem.W.mg_of X G a_found_among, (fun_mk (st := top 20) l_found_among c_found_among k_found_among).binds (ps := ["question", "texts"]) fun _ _ _ _ _ _ us hl => match us, hl with | [_, _], _ => rfl⟩,
    ⟨_, _, fun_mk (st := top 22) l__law_town c__law_town k__law_town, PySem.W.mg_of X G a__law_town, (fun_mk (st := top 22) l__law_town c__law_town k__law_town).binds (ps := ["_law_script"]) fun _ _ _ _ _ _ us hl => match us, hl with | [_], _ => rfl⟩,
    ⟨_, _, fun_mk (st := top 23) l__law_draw c__law_draw k__law_draw, PySem.W.mg_of X G a__law_draw, (fun_mk (st := top 23) l__law_draw c__law_draw k__law_draw).binds (ps := ["_law_script", "_law_town_here", "_law_limit"]) fun _ _ _ _ _ _ us hl => match us, hl with | [_, _, _], _ => rfl⟩,
    ⟨_, _, fun_mk (st := top 24) l__law_pick c__law_pick k__law_pick, PySem.W.mg_of X G a__law_pick, (fun_mk (st := top 24) l__law_pick c__law_pick k__law_pick).binds (ps := ["_law_script", "_law_town_here", "_law_choices"]) fun _ _ _ _ _ _ us hl => match us, hl with | [_, _, _], _ => rfl⟩,
    ⟨_, _, fun_mk (st := top 25) l__law_word c__law_word k__law_word, PySem.W.mg_of X G a__law_word, (fun_mk (st := top 25) l__law_word c__law_word k__law_word).binds (ps := ["_law_script", "_law_town_here"]) fun _ _ _ _ _ _ us hl => match us, hl with | [_, _], _ => rfl⟩,
    ⟨_, _, fun_mk (st := top 26) l__law_simple c__law_simple k__law_simple, PySem.W.mg_of X G a__law_simple, (fun_mk (st := top 26) l__law_simple c__law_simple k__law_simple).binds (ps := ["_law_script", "_law_town_here"]) fun _ _ _ _ _ _ us hl => match us, hl with | [_, _], _ => rfl⟩,
    ⟨_, _, fun_mk (st := top 27) l__law_question c__law_question k__law_question, PySem.W.mg_of X G a__law_question, (fun_mk (st := top 27) l__law_question c__law_question k__law_question).binds (ps := ["_law_script", "_law_town_here", "_law_deep"]) fun _ _ _ _ _ _ us hl => match us, hl with | [_, _, _], _ => rfl⟩,
    ⟨_, _, fun_mk (st := top 28) l__law_text c__law_text k__law_text, PySem.W.mg_of X G a__law_text, (fun_mk (st := top 28) l__law_text c__law_text k__law_text).binds (ps := ["_law_script", "_law_town_here", "_law_most"]) fun _ _ _ _ _ _ us hl => match us, hl with | [_, _, _], _ => rfl⟩,
    ⟨_, _, fun_mk (st := top 29) l__law_finds c__law_finds k__law_finds, PySem.W.mg_of X G a__law_finds, (fun_mk (st := top 29) l__law_finds c__law_finds k__law_finds).binds (ps := ["_law_question_here", "_law_text_here"]) fun _ _ _ _ _ _ us hl => match us, hl with | [_, _], _ => rfl⟩,
    ⟨_, _, fun_mk (st := top 30) l__law_depth c__law_depth k__law_depth, PySem.W.mg_of X G a__law_depth, (fun_mk (st := top 30) l__law_depth c__law_depth k__law_depth).binds (ps := ["_law_question_here"]) fun _ _ _ _ _ _ us hl => match us, hl with | [_], _ => rfl⟩,
    ⟨_, _, fun_mk (st := top 31) l_law c_law k_law, PySem.W.mg_of X G a_law, (fun_mk (st := top 31) l_law c_law k_law).binds (ps := ["_law_script"]) fun _ _ _ _ _ _ us hl => match us, hl with | [_], _ => rfl⟩⟩
  exact ⟨_, fun s v => .of_eq rfl, fun base _ _ => (okf_law T (fun_mk (st := top 31) l_law c_law k_law)).imp (spLaw_of law_true)⟩
end WF
open PySem PySem.W PyProof.Rows
set_option maxRecDepth 100000 in
set_option maxHeartbeats 0 in
set_option pp.maxSteps 60 in
theorem PySem.Challenge.cw_wordfinds_k02_whole_finds_holds : PySem.Challenge.rw_wordfinds_k02_whole_finds.Holds := by
  w_on; o_law; k_head; (case hw => w_witness2)
  k_fill
  refine WF.walk (k := 11) (x := "_law_script") (l := PySem.Challenge.rw_wordfinds_k02_whole_finds) rfl rfl ⟨rfl, by decide, by decide⟩ (fun w h Y => PySem.W.kIn_of Y) ?F
  case F =>
    intro w mg fa h KX G hmg
    refine' WF.all_mk KX G hmg ?z_all ?z_any ?z_bool ?z_enumerate ?z_int ?z_isinstance ?z_len ?z_list ?z_max ?z_range ?z_str ?z_tuple ?gc_WORDS ?gc_DEEP ?xg_InvalidQuestion ?xe_InvalidQuestion ?xk_InvalidQuestion ?xs_InvalidQuestion ?xt_InvalidQuestion ?xg_InvalidText ?xe_InvalidText ?xk_InvalidText ?xs_InvalidText ?xt_InvalidText ?xg_InvalidTexts ?xe_InvalidTexts ?xk_InvalidTexts ?xs_InvalidTexts ?xt_InvalidTexts ?a_is_between ?l_is_between ?c_is_between ?k_is_between ?a_are_words ?l_are_words ?c_are_words ?k_are_words ?a_is_simple ?l_is_simple ?c_is_simple ?k_is_simple ?a_is_at_most ?l_is_at_most ?c_is_at_most ?k_is_at_most ?a_is_question ?l_is_question ?c_is_question ?k_is_question ?a_check_question ?l_check_question ?c_check_question ?k_check_question ?a_check_text ?l_check_text ?c_check_text ?k_check_text ?a_depth_of ?l_depth_of ?c_depth_of ?k_depth_of ?a_depth ?l_depth ?c_depth ?k_depth ?a_are_close ?l_are_close ?c_are_close ?k_are_close ?a_does_find ?l_does_find ?c_does_find ?k_does_find ?a_finds ?l_finds ?c_finds ?k_finds ?a_found_among ?l_found_among ?c_found_among ?k_found_among ?a__law_town ?l__law_town ?c__law_town ?k__law_town ?a__law_draw ?l__law_draw ?c__law_draw ?k__law_draw ?a__law_pick ?l__law_pick ?c__law_pick ?k__law_pick ?a__law_word ?l__law_word ?c__law_word ?k__law_word ?a__law_simple ?l__law_simple ?c__law_simple ?k__law_simple ?a__law_question ?l__law_question ?c__law_question ?k__law_question ?a__law_text ?l__law_text ?c__law_text ?k__law_text ?a__law_finds ?l__law_finds ?c__law_finds ?k__law_finds ?a__law_depth ?l__law_depth ?c__law_depth ?k__law_depth ?a_law ?l_law ?c_law ?k_law
    (case z_all => k_is)
    (case z_any => k_is)
    (case z_bool => k_is)
    (case z_enumerate => k_is)
    (case z_int => k_is)
    (case z_isinstance => k_is)
    (case z_len => k_is)
    (case z_list => k_is)
    (case z_max => k_is)
    (case z_range => k_is)
    (case z_str => k_is)
    (case z_tuple => k_is)
    (case gc_WORDS => k_is)
    (case gc_DEEP => k_is)
    (case xg_InvalidQuestion => k_is)
    (case xe_InvalidQuestion => k_exc)
    (case xk_InvalidQuestion => k_is)
    (case xs_InvalidQuestion => k_is)
    (case xt_InvalidQuestion => k_is)
    (case xg_InvalidText => k_is)
    (case xe_InvalidText => k_exc)
    (case xk_InvalidText => k_is)
    (case xs_InvalidText => k_is)
    (case xt_InvalidText => k_is)
    (case xg_InvalidTexts => k_is)
    (case xe_InvalidTexts => k_exc)
    (case xk_InvalidTexts => k_is)
    (case xs_InvalidTexts => k_is)
    (case xt_InvalidTexts => k_is)
    (case a_is_between => k_is)
    (case l_is_between => k_is)
    (case c_is_between => k_is)
    (case k_is_between => k_is)
    (case a_are_words => k_is)
    (case l_are_words => k_is)
    (case c_are_words => k_is)
    (case k_are_words => k_is)
    (case a_is_simple => k_is)
    (case l_is_simple => k_is)
    (case c_is_simple => k_is)
    (case k_is_simple => k_is)
    (case a_is_at_most => k_is)
    (case l_is_at_most => k_is)
    (case c_is_at_most => k_is)
    (case k_is_at_most => k_is)
    (case a_is_question => k_is)
    (case l_is_question => k_is)
    (case c_is_question => k_is)
    (case k_is_question => k_is)
    (case a_check_question => k_is)
    (case l_check_question => k_is)
    (case c_check_question => k_is)
    (case k_check_question => k_is)
    (case a_check_text => k_is)
    (case l_check_text => k_is)
    (case c_check_text => k_is)
    (case k_check_text => k_is)
    (case a_depth_of => k_is)
    (case l_depth_of => k_is)
    (case c_depth_of => k_is)
    (case k_depth_of => k_is)
    (case a_depth => k_is)
    (case l_depth => k_is)
    (case c_depth => k_is)
    (case k_depth => k_is)
    (case a_are_close => k_is)
    (case l_are_close => k_is)
    (case c_are_close => k_is)
    (case k_are_close => k_is)
    (case a_does_find => k_is)
    (case l_does_find => k_is)
    (case c_does_find => k_is)
    (case k_does_find => k_is)
    (case a_finds => k_is)
    (case l_finds => k_is)
    (case c_finds => k_is)
    (case k_finds => k_is)
    (case a_found_among => k_is)
    (case l_found_among => k_is)
    (case c_found_among => k_is)
    (case k_found_among => k_is)
    (case a__law_town => k_is)
    (case l__law_town => k_is)
    (case c__law_town => k_is)
    (case k__law_town => k_is)
    (case a__law_draw => k_is)
    (case l__law_draw => k_is)
    (case c__law_draw => k_is)
    (case k__law_draw => k_is)
    (case a__law_pick => k_is)
    (case l__law_pick => k_is)
    (case c__law_pick => k_is)
    (case k__law_pick => k_is)
    (case a__law_word => k_is)
    (case l__law_word => k_is)
    (case c__law_word => k_is)
    (case k__law_word => k_is)
    (case a__law_simple => k_is)
    (case l__law_simple => k_is)
    (case c__law_simple => k_is)
    (case k__law_simple => k_is)
    (case a__law_question => k_is)
    (case l__law_question => k_is)
    (case c__law_question => k_is)
    (case k__law_question => k_is)
    (case a__law_text => k_is)
    (case l__law_text => k_is)
    (case c__law_text => k_is)
    (case k__law_text => k_is)
    (case a__law_finds => k_is)
    (case l__law_finds => k_is)
    (case c__law_finds => k_is)
    (case k__law_finds => k_is)
    (case a__law_depth => k_is)
    (case l__law_depth => k_is)
    (case c__law_depth => k_is)
    (case k__law_depth => k_is)
    (case a_law => k_is)
    (case l_law => k_is)
    (case c_law => k_is)
    (case k_law => k_is)

