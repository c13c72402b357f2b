import PyProof.Rows.All
import Wide.All
import OpenK.AllK
import Wide.FinOn
import HandS.ForMost
import HandS.ForExc
import HandS.IsInst
import KE.DataEq
import HandS.TupAny
import HandS.TupLe
import HandS.Style
import HandS.Deep
import HandS.Text
import HandS.Conv
import HandS.CallSlots
import HandS.Dict
import HandS.Iter
import KE.GoesEnum
import PySem.Challenge.RW_wordfinds_k20_whole_counts
import KE.KDictKeyed
import KE.KeyNested
import HandS.Lambda
import HandS.Nested
import HandS.TryOnly
import HandS.EndTab
import KE.GoesMore
import KE.GoesZip
import KE.KDictDisplayH
import PyProof.StrOps2
import HandS.EndOwn
import KE.KRevSl
import HandS.More
import KE.KDictWalk
import KE.DataMinMax
import HandS.SetFor
import HandS.SetTxt0
import HandS.SetTxtIn
import PyProof.Rows.SortShellAny
/-! # Den: the plain side. A small semantics of the fragment of Python that the program and the laws use:
data D, a store of mutable objects, outcomes, and one combinator for each construct. No library is imported. -/
namespace WF

/-- a text: its code points -/
abbrev Cs := List Nat

/-- data: `lst` a list that nobody changes, `loc n` the n-th mutable object of the store, `fn k caps` a function value, `exc c` a caught exception -/
inductive D where
  | non
  | bl (b : Bool)
  | int (i : Int)
  | str (s : Cs)
  | tup (ds : List D)
  | lst (ds : List D)
  | loc (n : Nat)
  | fn (k : Nat) (caps : List D)
  | exc (c : Nat)
deriving Inhabited

/-- a mutable object; a function value; one that is gone -/
inductive MO where
  | lst (ds : List D)
  | dict (kvs : List (D × D))
  | frz (kvs : List (D × D))
  | inst (c : Cs) (fs : List (Cs × D))
  | fn (k : Nat) (caps : List D)
  | dead
deriving Inhabited

abbrev Store := List MO

/-- the largest length of a list or text -/
abbrev lim : Nat := 16777216

inductive Res (α : Type) where
  | ok (a : α) (S : Store)
  | ex (c : Nat) (S : Store)
  | un

namespace Res
variable {α β γ : Type}
def bind (x : Res α) (f : α → Store → Res β) : Res β := match x with
  | ok a S => f a S
  | ex c S => ex c S
  | un => un
@[simp] theorem ok_bind (a : α) (S : Store) (f : α → Store → Res β) : (ok a S).bind f = f a S := rfl
@[simp] theorem ex_bind (c : Nat) (S : Store) (f : α → Store → Res β) : (ex c S : Res α).bind f = ex c S := rfl
@[simp] theorem un_bind (f : α → Store → Res β) : (un : Res α).bind f = un := rfl
/-- an exception is not provided for -/
def noex (x : Res α) : Res α := match x with
  | ok a S => ok a S
  | ex _ _ => un
  | un => un
@[simp] theorem ok_noex (a : α) (S : Store) : (ok a S).noex = ok a S := rfl
@[simp] theorem ex_noex (c : Nat) (S : Store) : (ex c S : Res α).noex = un := rfl
@[simp] theorem un_noex : (un : Res α).noex = un := rfl
theorem bind_assoc (x : Res α) (f : α → Store → Res β) (g : β → Store → Res γ) : (x.bind f).bind g = x.bind fun a S => (f a S).bind g := by
  cases x <;> rfl
end Res

abbrev M (α : Type) := Store → Res α
abbrev Env := List (Option D)
abbrev FE := Env → M D
abbrev FT := Env → M Bool

inductive Ctl where
  | next (ρ : Env)
  | ret (d : D)
  | brk (ρ : Env)
  | cnt (ρ : Env)

abbrev FS := Env → M Ctl
abbrev FG := D → Env → M Env
/-- what is read anew at each turn -/
abbrev Live := Store → Option (List D)
def lvL (n : Nat) : Live := fun S => match S[n]? with
  | some (.lst es) => some es
  | _ => none
/-- what is walked: the items, and where a mutable list is walked, its items as they stand at each turn (it must keep its length) -/
abbrev FI := Env → M (List D × Option Live)
/-- a def's denotation -/
abbrev FF := List D → M D

/-! ### equality of data -/
mutual
def D.eqv : D → D → Bool
  | .non, .non => true
  | .bl a, .bl b => a == b
  | .bl a, .int j => (if a then 1 else 0) == j
  | .int i, .bl b => i == (if b then 1 else 0)
  | .int i, .int j => i == j
  | .str x, .str y => x == y
  | .lst xs, .lst ys => D.eqvs xs ys
  | .tup xs, .tup ys => D.eqvs xs ys
  | _, _ => false
def D.eqvs : List D → List D → Bool
  | [], [] => true
  | x :: xs, y :: ys => D.eqv x y && D.eqvs xs ys
  | _, _ => false
end
mutual
/-- no mutable object, function or exception lies within -/
def D.plain : D → Bool
  | .non | .bl _ | .int _ | .str _ => true
  | .tup ds | .lst ds => D.plains ds
  | _ => false
def D.plains : List D → Bool
  | [] => true
  | x :: xs => D.plain x && D.plains xs
end
mutual
def D.depth : D → Nat
  | .tup ds | .lst ds => D.depths ds + 1
  | _ => 0
def D.depths : List D → Nat
  | [] => 0
  | x :: xs => max (D.depth x) (D.depths xs)
end

/-- a mutable list is read at the store -/
def res (S : Store) (d : D) : D := match d with
  | .loc n => match S[n]? with
    | some (.lst ds) => .lst ds
    | _ => .loc n
  | d => d

/-! ### operations on values -/
def gEq (a b : D) : M D := fun S =>
  let x := res S a
  let y := res S b
  if (x.plain && y.plain && decide (min x.depth y.depth ≤ 60)) = true then .ok (.bl (x.eqv y)) S else .un
def gNe (a b : D) : M D := fun S => (gEq a b S).bind fun d S => match d with
  | .bl c => .ok (.bl (!c)) S
  | _ => .un

def rep {α : Type} (n : Nat) (xs : List α) : List α := (List.replicate n xs).flatten

def gAdd (a b : D) : M D := fun S => match a, b with
  | .int i, .int j => .ok (.int (i + j)) S
  | .int i, .bl k => .ok (.int (i + if k then 1 else 0)) S
  | .str s, .str t => if s.length + t.length ≤ lim then .ok (.str (s ++ t)) S else .un
  | .tup xs, .tup ys => if xs.length + ys.length ≤ lim then .ok (.tup (xs ++ ys)) S else .un
  | .lst xs, .lst ys => if xs.length + ys.length ≤ lim then .ok (.lst (xs ++ ys)) S else .un
  | _, _ => .un
def gAddI (a b : D) : M D := fun S => match a, b with
  | .int i, .int j => .ok (.int (i + j)) S
  | _, _ => .un
def gSub (a b : D) : M D := fun S => match a, b with
  | .int i, .int j => .ok (.int (i - j)) S
  | _, _ => .un
abbrev two64 : Int := 18446744073709551616
def gMul (a b : D) : M D := fun S => match a, b with
  | .int i, .int j => if (-two64 < i ∧ i < two64) ∨ (-two64 < j ∧ j < two64) then .ok (.int (i * j)) S else .un
  | _, _ => .un
/-- a text times an int -/
def gRep (a b : D) : M D := fun S => match a, b with
  | .str s, .int j => if 2 ≤ j ∧ j ≤ 1000 ∧ s.isEmpty = false ∧ s.length ≤ 1000 then .ok (.str (rep j.toNat s)) S else .un
  | _, _ => .un
def gFdiv (a b : D) : M D := fun S => match a, b with
  | .int i, .int j => if j ≠ 0 ∧ j.natAbs < 1073741824 then .ok (.int (i.fdiv j)) S else .un
  | _, _ => .un
def gMod (a b : D) : M D := fun S => match a, b with
  | .int i, .int j => if j ≠ 0 then .ok (.int (i.fmod j)) S else .un
  | _, _ => .un
def gPow (a b : D) : M D := fun S => match a, b with
  | .int i, .int j => if 0 ≤ j ∧ j ≤ 1000 ∧ i.natAbs < 18446744073709551616 then .ok (.int (i ^ j.toNat)) S else .un
  | _, _ => .un

def gNeg (a : D) : M D := fun S => match a with
  | .int i => .ok (.int (-i)) S
  | _ => .un

/-- the order of texts -/
def ltCs : Cs → Cs → Bool
  | [], [] => false
  | [], _ :: _ => true
  | _ :: _, [] => false
  | x :: xs, y :: ys => if x < y then true else if x = y then ltCs xs ys else false

def gLt (a b : D) : M D := fun S => match a, b with
  | .int i, .int j => .ok (.bl (decide (i < j))) S
  | _, _ => .un
def gLe (a b : D) : M D := fun S => match a, b with
  | .int i, .int j => .ok (.bl (decide (i ≤ j))) S
  | _, _ => .un
def gGt (a b : D) : M D := fun S => match a, b with
  | .int i, .int j => .ok (.bl (decide (j < i))) S
  | _, _ => .un
def gGe (a b : D) : M D := fun S => match a, b with
  | .int i, .int j => .ok (.bl (decide (j ≤ i))) S
  | _, _ => .un
def D.isNon : D → Bool
  | .non => true
  | _ => false
def D.isBl (k : Bool) : D → Bool
  | .bl b => b == k
  | _ => false
def gIsNon (a : D) : M D := fun S => .ok (.bl a.isNon) S
def gNotNon (a : D) : M D := fun S => .ok (.bl (!a.isNon)) S

/-- the one text within the other -/
def subIn (v : Cs) : Cs → Bool
  | [] => v.isEmpty
  | c :: t => v.isPrefixOf (c :: t) || subIn v t

def gIn (a b : D) : M D := fun S =>
  let x := res S a
  match x, res S b with
  | .str v, .str t => .ok (.bl (subIn v t)) S
  | x, .tup ds => if (x.plain && D.plains ds && decide (x.depth ≤ 60)) = true then .ok (.bl (ds.any fun y => y.eqv x)) S else .un
  | x, .lst ds => if (x.plain && D.plains ds && decide (x.depth ≤ 60)) = true then .ok (.bl (ds.any fun y => y.eqv x)) S else .un
  | _, _ => .un
def gNotIn (a b : D) : M D := fun S => (gIn a b S).bind fun d S => match d with
  | .bl c => .ok (.bl (!c)) S
  | _ => .un

/-- an index of any sign -/
def ixN (n : Nat) (i : Int) : Option Nat := if 0 ≤ i then (if i < n then some i.toNat else none) else if -(n : Int) ≤ i then some (i + n).toNat else none
def atI {α : Type} (xs : List α) (i : Int) : Option α := (ixN xs.length i).bind fun j => xs[j]?

def gIdx (a b : D) : M D := fun S => match res S a, b with
  | .tup ds, .int i => match atI ds i with
    | some d => .ok d S
    | none => .un
  | .lst ds, .int i => match atI ds i with
    | some d => .ok d S
    | none => .un
  | .str s, .int i => if s.length ≤ lim then (match atI s i with
    | some c => .ok (.str [c]) S
    | none => .un) else .un
  | _, _ => .un

/-- the bounds of a slice -/
def sIx (n d : Nat) : Option Int → Nat
  | none => d
  | some i => if i < 0 then (i + n).toNat else min i.toNat n
def cut {α : Type} (xs : List α) (lo hi : Option Int) : List α := (xs.drop (sIx xs.length 0 lo)).take (sIx xs.length xs.length hi - sIx xs.length 0 lo)

def gSlice (a : D) (lo hi : Option Int) : M D := fun S => match res S a with
  | .tup ds => .ok (.tup (cut ds lo hi)) S
  | .lst ds => .ok (.lst (cut ds lo hi)) S
  | .str s => if s.length ≤ lim then .ok (.str (cut s lo hi)) S else .un
  | _ => .un

/-- s[::-1] -/
def gRev (a : D) : M D := fun S => match a with
  | .str s => if s.length ≤ lim then .ok (.str s.reverse) S else .un
  | _ => .un

/-- an item of a module's dict of texts -/
def gTab (tab : List (Cs × Cs)) (a : D) : M D := fun S => match a with
  | .str s => match tab.lookup s with
    | some v => .ok (.str v) S
    | none => .un
  | _ => .un

/-! ### built-in functions -/
def bLen (a : D) : M D := fun S => match res S a with
  | .tup ds => .ok (.int ds.length) S
  | .lst ds => .ok (.int ds.length) S
  | .str s => if s.length ≤ lim then .ok (.int s.length) S else .un
  | _ => .un

/-- the built-in classes that isinstance is asked of -/
inductive Ty where
  | int | bool | str | tuple
deriving DecidableEq
def isTy : Ty → D → Option Bool
  | .int, .int _ => some true
  | .int, .bl _ => some true
  | .bool, .bl _ => some true
  | .str, .str _ => some true
  | .tuple, .tup _ => some true
  | _, .non => some false
  | _, .bl _ => some false
  | _, .int _ => some false
  | _, .str _ => some false
  | _, .tup _ => some false
  | _, .lst _ => some false
  | _, _ => none
def bIsi (t : Ty) (a : D) : M D := fun S => match isTy t (res S a) with
  | some b => .ok (.bl b) S
  | none => .un

def boolsOf : List D → Option (List Bool)
  | [] => some []
  | .bl b :: r => (boolsOf r).map (b :: ·)
  | _ => none
def intsOf : List D → Option (List Int)
  | [] => some []
  | .int b :: r => (intsOf r).map (b :: ·)
  | _ => none
def strsOf : List D → Option (List Cs)
  | [] => some []
  | .str b :: r => (strsOf r).map (b :: ·)
  | _ => none
/-- the items of a list, mutable or not -/
def lstOf (S : Store) (d : D) : Option (List D) := match res S d with
  | .lst ds => some ds
  | _ => none
def bAll (a : D) : M D := fun S => match (lstOf S a).bind boolsOf with
  | some bs => .ok (.bl (bs.all id)) S
  | none => .un
def bAny (a : D) : M D := fun S => match (lstOf S a).bind boolsOf with
  | some bs => .ok (.bl (bs.any id)) S
  | none => .un
def bSum (a : D) : M D := fun S => match (lstOf S a).bind intsOf with
  | some bs => .ok (.int bs.sum) S
  | none => .un
def maxL : List Int → Option Int
  | [] => none
  | x :: xs => some (xs.foldl (fun a b => if a < b then b else a) x)
def bMax (a : D) : M D := fun S => match ((lstOf S a).bind intsOf).bind maxL with
  | some m => .ok (.int m) S
  | none => .un
def bMax2 (a b : D) : M D := fun S => match a, b with
  | .int i, .int j => .ok (.int (if i < j then j else i)) S
  | _, _ => .un
def bMin2 (a b : D) : M D := fun S => match a, b with
  | .int i, .int j => .ok (.int (if j < i then j else i)) S
  | _, _ => .un
def bTuple (a : D) : M D := fun S => match res S a with
  | .lst ds => .ok (.tup ds) S
  | .tup ds => .ok (.tup ds) S
  | _ => .un
def bList (a : D) : M D := fun S => match res S a with
  | .lst ds => .ok (.lst ds) S
  | .tup ds => .ok (.lst ds) S
  | .str s => if s.length ≤ lim then .ok (.lst (s.map fun c => .str [c])) S else .un
  | _ => .un
/-! min of data that can be compared place by place: ints, texts, tuples of such -/
mutual
/-- what the order looks at -/
def D.toks : D → List (Int ⊕ Cs)
  | .bl b => [.inl (if b = true then 1 else 0)]
  | .int i => [.inl i]
  | .str s => [.inr s]
  | .lst ds => D.tokss ds
  | .tup ds => D.tokss ds
  | _ => []
def D.tokss : List D → List (Int ⊕ Cs)
  | [] => [.inl 0]
  | d :: ds => .inl 1 :: (D.toks d ++ D.tokss ds)
end
def tokLt : Int ⊕ Cs → Int ⊕ Cs → Bool
  | .inl a, .inl b => decide (a < b)
  | .inl _, .inr _ => true
  | .inr _, .inl _ => false
  | .inr a, .inr b => decide (a < b)
def toksLt : List (Int ⊕ Cs) → List (Int ⊕ Cs) → Bool
  | [], [] => false
  | [], _ :: _ => true
  | _ :: _, [] => false
  | x :: r, y :: t => tokLt x y || (!tokLt y x && toksLt r t)
def D.lt (a b : D) : Bool := toksLt a.toks b.toks
mutual
def D.alike : D → D → Bool
  | .bl _, .bl _ => true
  | .int _, .int _ => true
  | .str _, .str _ => true
  | .lst xs, .lst ys => D.alikes xs ys
  | .tup xs, .tup ys => D.alikes xs ys
  | _, _ => false
def D.alikes : List D → List D → Bool
  | x :: xs, y :: ys => D.alike x y && D.alikes xs ys
  | [], _ => true
  | _ :: _, [] => true
end
def minOf (x : D) (xs : List D) : D := xs.foldl (fun a y => if y.lt a = true then y else a) x
def bMinL (a : D) : M D := fun S => match lstOf S a with
  | some (d :: ds) => if (D.plains (d :: ds) && (d :: ds).all (fun x => (d :: ds).all fun y => x.alike y) && decide (D.depths (d :: ds) ≤ 40)) = true then .ok (minOf d ds) S else .un
  | _ => .un
/-- texts with a text between -/
def joinCs (sep : Cs) : List Cs → Cs
  | [] => []
  | [x] => x
  | x :: y :: xs => x ++ (sep ++ joinCs sep (y :: xs))
def joinLen (sep : Cs) (xs : List Cs) : Nat := (xs.map List.length).sum + sep.length * xs.length
/-- the items of a list or a tuple -/
def seqOf (S : Store) (d : D) : Option (List D) := match res S d with
  | .lst ds => some ds
  | .tup ds => some ds
  | _ => none
def bJoin (sep a : D) : M D := fun S => match sep, (seqOf S a).bind strsOf with
  | .str s, some xs => if xs.length ≤ lim ∧ joinLen s xs ≤ lim then .ok (.str (joinCs s xs)) S else .un
  | _, _ => .un
/-- how often a text of one sign stands in a text -/
def bCount (a b : D) : M D := fun S => match a, b with
  | .str t, .str [c] => .ok (.int (t.count c)) S
  | _, _ => .un

/-- functions of one, of two values as functions of an argument list -/
def f1 (g : D → M D) : FF := fun ds S => match ds with
  | [a] => g a S
  | _ => .un
def f2 (g : D → D → M D) : FF := fun ds S => match ds with
  | [a, b] => g a b S
  | _ => .un

/-! ### expressions -/
def dVar (i : Nat) : FE := fun ρ S => match ρ[i]? with
  | some (some d) => .ok d S
  | _ => .un
def dC (d : D) : FE := fun _ S => .ok d S
def dUn (g : D → M D) (a : FE) : FE := fun ρ S => (a ρ S).bind g
def dBin (g : D → D → M D) (a b : FE) : FE := fun ρ S => (a ρ S).bind fun x S1 => (b ρ S1).bind fun y S2 => g x y S2
/-- a text's method of one argument -/
def dStrM (g : D → D → M D) (a b : FE) : FE := fun ρ S => (a ρ S).bind fun x S1 => match x with
  | .str s => (b ρ S1).bind fun y S2 => g (.str s) y S2
  | _ => .un
/-- and, or, not as values, by truth values -/
def dAnd (a b : FE) : FE := fun ρ S => (a ρ S).bind fun x S1 => match x with
  | .bl true => b ρ S1
  | .bl false => .ok (.bl false) S1
  | _ => .un
def dOr (a b : FE) : FE := fun ρ S => (a ρ S).bind fun x S1 => match x with
  | .bl false => b ρ S1
  | .bl true => .ok (.bl true) S1
  | _ => .un
def dNot (a : FE) : FE := fun ρ S => (a ρ S).bind fun x S1 => match x with
  | .bl b => .ok (.bl (!b)) S1
  | _ => .un
def dIf (t : FT) (a b : FE) : FE := fun ρ S => (t ρ S).bind fun c S1 => if c = true then a ρ S1 else b ρ S1
/-- a op1 b op2 c -/
def dChain (g g' : D → D → M D) (a b c : FE) : FE := fun ρ S => (a ρ S).bind fun x S1 => (b ρ S1).bind fun y S2 => (g x y S2).bind fun z S3 => match z with
  | .bl true => (c ρ S3).bind fun u S4 => g' y u S4
  | .bl false => .ok (.bl false) S3
  | _ => .un
def evalAll : List FE → Env → M (List D)
  | [], _, S => .ok [] S
  | a :: r, ρ, S => (a ρ S).bind fun x S1 => (evalAll r ρ S1).bind fun xs S2 => .ok (x :: xs) S2
def dTup (as : List FE) : FE := fun ρ S => (evalAll as ρ S).bind fun ds S1 => .ok (.tup ds) S1
def dLst (as : List FE) : FE := fun ρ S => (evalAll as ρ S).bind fun ds S1 => .ok (.lst ds) S1
/-- a list that will be changed -/
def dNew (as : List FE) : FE := fun ρ S => (evalAll as ρ S).bind fun ds S1 => .ok (.loc S1.length) (S1 ++ [.lst ds])
/-- a new list that will be changed, made by an expression of another kind -/
def dMut (a : FE) : FE := fun ρ S => (a ρ S).bind fun d S1 => match d with
  | .lst ds => .ok (.loc S1.length) (S1 ++ [.lst ds])
  | _ => .un
/-- a list and a list together, a new list that will be changed -/
def dCatNew (a b : FE) : FE := fun ρ S => (a ρ S).bind fun x S1 => (b ρ S1).bind fun y S2 => match lstOf S2 x, lstOf S2 y with
  | some xs, some ys => if xs.length + ys.length ≤ lim then .ok (.loc S2.length) (S2 ++ [.lst (xs ++ ys)]) else .un
  | _, _ => .un
def dCall (f : FF) (as : List FE) : FE := fun ρ S => (evalAll as ρ S).bind f
def dPart (a : FE) : Env → M (Option Int) := fun ρ S => (a ρ S).bind fun d S1 => match d with
  | .int i => .ok (some i) S1
  | _ => .un
def dNoPart : Env → M (Option Int) := fun _ S => .ok none S
def dSlice (a : FE) (lo hi : Env → M (Option Int)) : FE := fun ρ S => (a ρ S).bind fun x S1 => (lo ρ S1).bind fun l S2 => (hi ρ S2).bind fun h S3 => gSlice x l h S3
/-- {k: v, ..}[e], the keys written texts -/
def dPick (ks : List Cs) (vs : List FE) (e : FE) : FE := fun ρ S => (evalAll vs ρ S).bind fun ds S1 => (e ρ S1).bind fun x S2 => match x with
  | .str s => match (ks.zip ds).lookup s with
    | some d => .ok d S2
    | none => .un
  | _ => .un

/-! ### tests -/
def tVal (a : FE) : FT := fun ρ S => (a ρ S).bind fun x S1 => match x with
  | .bl b => .ok b S1
  | _ => .un
def tAnd (a b : FT) : FT := fun ρ S => (a ρ S).bind fun c S1 => if c = true then b ρ S1 else .ok false S1
def tOr (a b : FT) : FT := fun ρ S => (a ρ S).bind fun c S1 => if c = true then .ok true S1 else b ρ S1
def tNot (a : FT) : FT := fun ρ S => (a ρ S).bind fun c S1 => .ok (!c) S1
def tYes : FT := fun _ S => .ok true S

/-! ### what is walked -/
def signs (s : Cs) : List D := s.map fun c => .str [c]
def iVal (a : FE) : FI := fun ρ S => (a ρ S).bind fun x S1 => match x with
  | .lst ds => .ok (ds, none) S1
  | .tup ds => .ok (ds, none) S1
  | .str s => if s.length ≤ lim then .ok (signs s, none) S1 else .un
  | .loc n => match S1[n]? with
    | some (.lst ds) => .ok (ds, some (lvL n)) S1
    | _ => .un
  | _ => .un
def rngD (lo : Int) (n : Nat) : List D := (List.range n).map fun (k : Nat) => .int (lo + (k : Int))
def iRange1 (a : FE) : FI := fun ρ S => (a ρ S).bind fun x S1 => match x with
  | .int n => if -16777216 ≤ n ∧ n ≤ 16777216 then .ok (rngD 0 n.toNat, none) S1 else .un
  | _ => .un
def iRange2 (a b : FE) : FI := fun ρ S => (a ρ S).bind fun x S1 => (b ρ S1).bind fun y S2 => match x, y with
  | .int m, .int n => if -16777216 ≤ m ∧ m ≤ 16777216 ∧ -16777216 ≤ n ∧ n ≤ 16777216 ∧ n - m ≤ 16777216 then .ok (rngD m (n - m).toNat, none) S2 else .un
  | _, _ => .un
def enumFrom : Nat → List D → List D
  | _, [] => []
  | k, d :: ds => .tup [.int (k : Int), d] :: enumFrom (k + 1) ds
/-- enumerate(a text) -/
def iEnum (a : FE) : FI := fun ρ S => (a ρ S).bind fun x S1 => match x with
  | .str s => if s.length ≤ lim then .ok (enumFrom 0 (signs s), none) S1 else .un
  | _ => .un
def zipD : List D → List D → List D
  | a :: as, b :: bs => .tup [a, b] :: zipD as bs
  | _, _ => []
/-- zip(a list, a tuple) -/
def iZip (a b : FE) : FI := fun ρ S => (a ρ S).bind fun x S1 => (b ρ S1).bind fun y S2 => match x, y with
  | .loc n, .tup ts => match S2[n]? with
    | some (.lst es) => .ok (zipD es ts, some fun S => (lvL n S).map fun es => zipD es ts) S2
    | _ => .un
  | .lst es, .tup ts => .ok (zipD es ts, none) S2
  | _, _ => .un
/-! ### comprehensions -/
def wipe (ρ : Env) : List Nat → Env
  | [] => ρ
  | v :: vs => (wipe ρ vs).set v none
def compL (g : FG) (vs : List Nat) (t : FT) (e : FE) (ρ : Env) : List D → M (List D)
  | [], S => .ok [] S
  | d :: ds, S => (g d (wipe ρ vs) S).noex.bind fun ρ1 S1 => (t ρ1 S1).noex.bind fun c S2 =>
    if c = true then (e ρ1 S2).noex.bind fun y S3 => (compL g vs t e ρ ds S3).bind fun ys S4 => .ok (y :: ys) S4
    else compL g vs t e ρ ds S2
/-- .. over the mutable list n of length len: k turns are left -/
def compN (g : FG) (vs : List Nat) (t : FT) (e : FE) (ρ : Env) (n : Live) (len : Nat) : Nat → M (List D)
  | 0, S => match n S with
    | some es => if es.length = len then .ok [] S else .un
    | none => .un
  | k + 1, S => match n S with
    | some es => if es.length = len then (match es[len - (k + 1)]? with
      | some d => (g d (wipe ρ vs) S).noex.bind fun ρ1 S1 => (t ρ1 S1).noex.bind fun c S2 =>
        if c = true then (e ρ1 S2).noex.bind fun y S3 => (compN g vs t e ρ n len k S3).bind fun ys S4 => .ok (y :: ys) S4
        else compN g vs t e ρ n len k S2
      | none => .un) else .un
    | none => .un
def dComp (it : FI) (g : FG) (vs : List Nat) (t : FT) (e : FE) : FE := fun ρ S => (it ρ S).bind fun p S1 =>
  if p.1.length ≤ lim then (match p.2 with
    | none => (compL g vs t e ρ p.1 S1).bind fun ys S2 => .ok (.lst ys) S2
    | some n => (compN g vs t e ρ n p.1.length p.1.length S1).bind fun ys S2 => .ok (.lst ys) S2) else .un

/-- [e for g in it for g2 in a text]: bounds that keep the list short -/
def comp2L (g : FG) (vs : List Nat) (a2 : FE) (g2 : FG) (vs2 : List Nat) (e : FE) (ρ : Env) : List D → M (List D)
  | [], S => .ok [] S
  | d :: ds, S => (g d (wipe ρ vs) S).noex.bind fun ρ1 S1 => (a2 ρ1 S1).noex.bind fun p S2 => match p with
    | .str s => if s.length ≤ 128 then (compL g2 vs2 tYes e ρ1 (signs s) S2).bind fun ys S3 => (comp2L g vs a2 g2 vs2 e ρ ds S3).bind fun zs S4 => .ok (ys ++ zs) S4 else .un
    | _ => .un
def dComp2 (it : FI) (g : FG) (vs : List Nat) (a2 : FE) (g2 : FG) (vs2 : List Nat) (e : FE) : FE := fun ρ S => (it ρ S).bind fun p S1 => match p.2 with
  | none => if p.1.length ≤ 65536 then (comp2L g vs a2 g2 vs2 e ρ p.1 S1).bind fun ys S2 => .ok (.lst ys) S2 else .un
  | some _ => .un

/-! ### targets -/
def gName (i : Nat) : FG := fun d ρ S => .ok (ρ.set i (some d)) S
def gAll : List FG → List D → Env → M Env
  | [], [], ρ, S => .ok ρ S
  | g :: gs, d :: ds, ρ, S => (g d ρ S).bind fun ρ1 S1 => gAll gs ds ρ1 S1
  | _, _, _, _ => .un
def gTup (gs : List FG) : FG := fun d ρ S => match res S d with
  | .tup ds => if ds.length = gs.length then gAll gs ds ρ S else .un
  | .lst ds => if ds.length = gs.length then gAll gs ds ρ S else .un
  | _ => .un
/-- o[i] = .., o a mutable list -/
def setAt (o i v : D) : M Unit := fun S => match o, i with
  | .loc n, .int k => match S[n]? with
    | some (.lst ds) => match ixN ds.length k with
      | some j => .ok () (S.set n (.lst (ds.set j v)))
      | none => .un
    | _ => .un
  | _, _ => .un
def gSubL (o i : FE) : FG := fun d ρ S => (o ρ S).bind fun x S1 => (i ρ S1).bind fun y S2 => (setAt x y d S2).bind fun _ S3 => .ok ρ S3

/-! ### statements -/
def sNil : FS := fun ρ S => .ok (.next ρ) S
def sSeq (a b : FS) : FS := fun ρ S => (a ρ S).bind fun c S1 => match c with
  | .next ρ1 => b ρ1 S1
  | .ret d => .ok (.ret d) S1
  | .brk ρ1 => .ok (.brk ρ1) S1
  | .cnt ρ1 => .ok (.cnt ρ1) S1
def sAsg (a : FE) (g : FG) : FS := fun ρ S => (a ρ S).bind fun d S1 => (g d ρ S1).bind fun ρ1 S2 => .ok (.next ρ1) S2
/-- a, b, .. = x, y, .. with plain local names -/
def setAll : List Nat → List D → Env → Env
  | i :: is, d :: ds, ρ => setAll is ds (ρ.set i (some d))
  | _, _, ρ => ρ
def sPar (is : List Nat) (as : List FE) : FS := fun ρ S => (evalAll as ρ S).bind fun ds S1 => .ok (.next (setAll is ds ρ)) S1
def sAug (g : D → D → M D) (i : Nat) (a : FE) : FS := fun ρ S => match ρ[i]? with
  | some (some x) => (a ρ S).bind fun y S1 => (g x y S1).bind fun z S2 => .ok (.next (ρ.set i (some z))) S2
  | _ => .un
def sExpr (a : FE) : FS := fun ρ S => (a ρ S).bind fun _ S1 => .ok (.next ρ) S1
def sRet (a : FE) : FS := fun ρ S => (a ρ S).bind fun d S1 => .ok (.ret d) S1
def sIf (t : FT) (a b : FS) : FS := fun ρ S => (t ρ S).bind fun c S1 => if c = true then a ρ S1 else b ρ S1
def sBrk : FS := fun ρ S => .ok (.brk ρ) S
def sCnt : FS := fun ρ S => .ok (.cnt ρ) S
def sRaise (c : Nat) : FS := fun _ S => .ex c S
def forL (g : FG) (body : FS) : List D → Env → M Ctl
  | [], ρ, S => .ok (.next ρ) S
  | d :: ds, ρ, S => (g d ρ S).bind fun ρ1 S1 => (body ρ1 S1).bind fun c S2 => match c with
    | .next ρ2 => forL g body ds ρ2 S2
    | .cnt ρ2 => forL g body ds ρ2 S2
    | .brk ρ2 => .ok (.next ρ2) S2
    | .ret d => .ok (.ret d) S2
/-- over the mutable list n of length len (it keeps its length): k turns are left -/
def forN (g : FG) (body : FS) (n : Live) (len : Nat) : Nat → Env → M Ctl
  | 0, ρ, S => match n S with
    | some es => if es.length = len then .ok (.next ρ) S else .un
    | none => .un
  | k + 1, ρ, S => match n S with
    | some es => if es.length = len then (match es[len - (k + 1)]? with
      | some d => (g d ρ S).bind fun ρ1 S1 => (body ρ1 S1).bind fun c S2 => match c with
        | .next ρ2 => forN g body n len k ρ2 S2
        | .cnt ρ2 => forN g body n len k ρ2 S2
        | .brk ρ2 => .ok (.next ρ2) S2
        | .ret d => .ok (.ret d) S2
      | none => .un) else .un
    | none => .un
def sFor (it : FI) (g : FG) (body : FS) : FS := fun ρ S => (it ρ S).bind fun p S1 => match p.2 with
  | none => forL g body p.1 ρ S1
  | some n => forN g body n p.1.length p.1.length ρ S1
def whileN (t : FT) (body : FS) : Nat → FS
  | 0, _, _ => .un
  | n + 1, ρ, S => (t ρ S).bind fun c S1 => if c = true then (body ρ S1).bind fun k S2 => match k with
    | .next ρ2 => whileN t body n ρ2 S2
    | .cnt ρ2 => whileN t body n ρ2 S2
    | .brk ρ2 => .ok (.next ρ2) S2
    | .ret d => .ok (.ret d) S2 else .ok (.next ρ) S1
/-- a while loop, with a bound on its turns -/
def sWhile (n : Env → Store → Nat) (t : FT) (body : FS) : FS := fun ρ S => whileN t body (n ρ S) ρ S

/-! ### instances, their methods; append -/
/-- o.f of an instance of the class c -/
def gFld (c f : Cs) (a : D) : M D := fun S => match a with
  | .loc n => match S[n]? with
    | some (.inst c' fs) => if c' = c then (match fs.lookup f with
      | some d => .ok d S
      | none => .un) else .un
    | _ => .un
  | _ => .un
def putD (f : Cs) (d : D) : List (Cs × D) → List (Cs × D)
  | [] => [(f, d)]
  | (g, e) :: r => if g = f then (g, d) :: r else (g, e) :: putD f d r
/-- o.f = a -/
def sFldD (c f : Cs) (o a : FE) : FS := fun ρ S => (a ρ S).bind fun d S1 => (o ρ S1).bind fun x S2 => match x with
  | .loc n => match S2[n]? with
    | some (.inst c' fs) => if c' = c ∧ fs.length < 900 then .ok (.next ρ) (S2.set n (.inst c' (putD f d fs))) else .un
    | _ => .un
  | _ => .un
/-- C(..), by its __init__ -/
def dMake (c : Cs) (init : FF) (as : List FE) : FE := fun ρ S => (evalAll as ρ S).bind fun ds S1 => (init (.loc S1.length :: ds) (S1 ++ [.inst c []])).bind fun d S2 => match d with
  | .non => .ok (.loc S1.length) S2
  | _ => .un
/-- o.m(..) of an instance of the class c -/
def dMeth (c m : Cs) (F : FF) (o : FE) (as : List FE) : FE := fun ρ S => (o ρ S).bind fun x S1 => match x with
  | .loc n => match S1[n]? with
    | some (.inst c' fs) => if c' = c ∧ fs.lookup m = none then (evalAll as ρ S1).bind fun ds S2 => F (.loc n :: ds) S2 else .un
    | _ => .un
  | _ => .un
/-- xs.append(a), xs.extend(a) -/
def dApp (o a : FE) : FE := fun ρ S => (o ρ S).bind fun x S1 => match x with
  | .loc n => match S1[n]? with
    | some (.lst _) => (a ρ S1).bind fun d S2 => match S2[n]? with
      | some (.lst ds) => if ds.length < lim then .ok .non (S2.set n (.lst (ds ++ [d]))) else .un
      | _ => .un
    | _ => .un
  | _ => .un
def dExt (o a : FE) : FE := fun ρ S => (o ρ S).bind fun x S1 => match x with
  | .loc n => match S1[n]? with
    | some (.lst _) => (a ρ S1).bind fun d S2 => match S2[n]?, d with
      | some (.lst ds), .lst es => if ds.length + es.length ≤ lim then .ok .non (S2.set n (.lst (ds ++ es))) else .un
      | _, _ => .un
    | _ => .un
  | _ => .un

/-! ### dicts: the keys are tuples of ints, texts, None and such tuples -/
mutual
/-- one and the same key -/
def D.kb : D → D → Bool
  | .non, .non => true
  | .int i, .int j => decide (i = j)
  | .str a, .str b => decide (a = b)
  | .tup a, .tup b => D.kbs a b
  | _, _ => false
def D.kbs : List D → List D → Bool
  | [], [] => true
  | a :: r, b :: t => D.kb a b && D.kbs r t
  | _, _ => false
end
mutual
def D.isKey : D → Bool
  | .non | .int _ | .str _ => true
  | .tup ds => D.areKeys ds
  | _ => false
def D.areKeys : List D → Bool
  | [] => true
  | d :: r => D.isKey d && D.areKeys r
end
/-- may stand as a key -/
def D.okKey (d : D) : Bool := match d with
  | .tup ds => D.areKeys ds && decide (D.depths ds ≤ 7)
  | _ => false
def getKD : List (D × D) → D → Option D
  | [], _ => none
  | (k, d) :: r, x => if k.kb x then some d else getKD r x
def setKD : List (D × D) → D → D → List (D × D)
  | [], x, v => [(x, v)]
  | (k, d) :: r, x, v => if k.kb x then (k, v) :: r else (k, d) :: setKD r x v
def dictOf (S : Store) (d : D) : Option (List (D × D)) := match d with
  | .loc n => match S[n]? with
    | some (.dict kvs) => some kvs
    | _ => none
  | _ => none
def gKIn (a b : D) : M D := fun S => match dictOf S b with
  | some kvs => if a.okKey = true then .ok (.bl (getKD kvs a).isSome) S else .un
  | none => .un
def gKNotIn (a b : D) : M D := fun S => match dictOf S b with
  | some kvs => if a.okKey = true then .ok (.bl (!(getKD kvs a).isSome)) S else .un
  | none => .un
def gKIdx (a b : D) : M D := fun S => match dictOf S a with
  | some kvs => if b.okKey = true then (match getKD kvs b with
    | some d => .ok d S
    | none => .un) else .un
  | none => .un
/-- d[k] = v -/
def setKAt (o i v : D) : M Unit := fun S => match o with
  | .loc n => match S[n]? with
    | some (.dict kvs) => if i.okKey = true ∧ kvs.length < lim then .ok () (S.set n (.dict (setKD kvs i v))) else .un
    | _ => .un
  | _ => .un
def gSubK (o i : FE) : FG := fun d ρ S => (o ρ S).bind fun x S1 => (i ρ S1).bind fun y S2 => (setKAt x y d S2).bind fun _ S3 => .ok ρ S3
/-- {}, {k: v} -/
def dDict0 : FE := fun _ S => .ok (.loc S.length) (S ++ [.dict []])
def dDict1 (a b : FE) : FE := fun ρ S => (a ρ S).bind fun x S1 => (b ρ S1).bind fun y S2 => if x.okKey = true then .ok (.loc S2.length) (S2 ++ [.dict [(x, y)]]) else .un
/-- d.get(k, x) -/
def dGetOr (o a b : FE) : FE := fun ρ S => (o ρ S).bind fun x S1 => match dictOf S1 x with
  | some _ => (a ρ S1).bind fun y S2 => (b ρ S2).bind fun z S3 => match dictOf S3 x with
    | some kvs => if y.okKey = true then .ok ((getKD kvs y).getD z) S3 else .un
    | none => .un
  | none => .un

/-! ### dicts walked, locked meanwhile -/
/-- what is walked: the keys, or the pairs -/
def itD (pr : Bool) (kvs : List (D × D)) : List D := if pr = true then kvs.map fun p => .tup [p.1, p.2] else kvs.map (·.1)
/-- over the locked dict in the variable i -/
def iFrz (pr : Bool) (i : Nat) : FI := fun ρ S => match ρ[i]? with
  | some (some (.loc n)) => match S[n]? with
    | some (.frz kvs) => .ok (itD pr kvs, none) S
    | _ => .un
  | _ => .un
/-- the dict in the variable i is locked while the statement runs -/
def sLock (i : Nat) (F : FS) : FS := fun ρ S => match ρ[i]? with
  | some (some (.loc n)) => match S[n]? with
    | some (.dict kvs) => (F ρ (S.set n (.frz kvs))).noex.bind fun c S1 => .ok c (S1.set n (.dict kvs))
    | _ => .un
  | _ => .un
def dLock (i : Nat) (F : FE) : FE := fun ρ S => match ρ[i]? with
  | some (some (.loc n)) => match S[n]? with
    | some (.dict kvs) => (F ρ (S.set n (.frz kvs))).noex.bind fun c S1 => .ok c (S1.set n (.dict kvs))
    | _ => .un
  | _ => .un

/-! ### int(..), str(..), xs.index(a) -/
def bInt (a : D) : M D := fun S => match a with
  | .int i => .ok (.int i) S
  | .bl k => .ok (.int (if k then 1 else 0)) S
  | .str [c] => if 48 ≤ c ∧ c ≤ 57 then .ok (.int ((c : Int) - 48)) S else .un
  | _ => .un
def bStrI (a : D) : M D := fun S => match a with
  | .int i => if 0 ≤ i ∧ i ≤ 9 then .ok (.str [i.toNat + 48]) S else .un
  | _ => .un
mutual
/-- its texts hold signs below 128 alone -/
def D.ascii : D → Bool
  | .str s => s.all fun c => decide (c < 128)
  | .tup ds | .lst ds => D.asciis ds
  | _ => true
def D.asciis : List D → Bool
  | [] => true
  | d :: r => D.ascii d && D.asciis r
end
/-- the first place of an equal item -/
def findEq (x : D) : List D → Option Nat
  | [] => none
  | d :: r => if d.eqv x = true then some 0 else (findEq x r).map (· + 1)
def dIndex (o a : FE) : FE := fun ρ S => (o ρ S).bind fun x S1 => match lstOf S1 x with
  | some _ => (a ρ S1).bind fun y S2 => match lstOf S2 x with
    | some ds => if (y.plain && D.plains ds && decide (y.depth ≤ 60) && decide (D.depths ds ≤ 60) && y.ascii && D.asciis ds) = true then (match findEq y ds with
      | some j => .ok (.int (j : Int)) S2
      | none => .un) else .un
    | none => .un
  | none => .un

/-- a is b, a is not b: truth values -/
def gIsB (a b : D) : M D := fun S => match a, b with
  | .bl x, .bl y => .ok (.bl (x == y)) S
  | _, _ => .un
def gNotB (a b : D) : M D := fun S => match a, b with
  | .bl x, .bl y => .ok (.bl (!(x == y))) S
  | _, _ => .un

/-! ### function values -/
def MO.cap : MO → Bool
  | .fn _ (_ :: _) => true
  | _ => false
/-- no function value with captured names is there -/
def noCap (S : Store) : Bool := S.all fun o => !o.cap
/-- lambda .., nothing captured -/
def dLam (k : Nat) : FE := fun _ S => .ok (.loc S.length) (S ++ [.fn k []])
def fnOf (S : Store) (d : D) : Option (Nat × List D) := match d with
  | .loc n => match S[n]? with
    | some (.fn k caps) => some (k, caps)
    | _ => none
  | _ => none
/-- f(..), f a variable that holds the lambda k, nothing captured -/
def dCallV (k : Nat) (F : FF) (a : FE) (as : List FE) : FE := fun ρ S => (a ρ S).bind fun x S1 => match fnOf S1 x with
  | some (i, []) => if i = k then (evalAll as ρ S1).bind fun ds S2 => match fnOf S2 x with
    | some (i, []) => if i = k then (F ds S2).noex else .un
    | _ => .un
    else .un
  | _ => .un
/-- f(..), f a variable that holds the lambda k, one name captured: while it runs, the function value is not at hand -/
def dCallW (k : Nat) (F : FF) (a : FE) (as : List FE) : FE := fun ρ S => (a ρ S).bind fun x S1 => match x, fnOf S1 x with
  | .loc n, some (i, [_]) => if i = k then (evalAll as ρ S1).bind fun ds S2 => match fnOf S2 (.loc n) with
    | some (i, [d]) => if i = k ∧ noCap (S2.set n .dead) = true then (F (ds ++ [d]) (S2.set n .dead)).noex.bind fun r S3 => if S3[n]? = none then .un else .ok r (S3.set n (.fn k [d])) else .un
    | _ => .un
    else .un
  | _, _ => .un
/-- o.m(lambda ..), the lambda k, the variable i captured -/
def dMethW (c m : Cs) (F : FF) (o : FE) (k i : Nat) : FE := fun ρ S => (o ρ S).bind fun x S1 => match x with
  | .loc n => match S1[n]? with
    | some (.inst c' fs) => if c' = c ∧ fs.lookup m = none then (dVar i ρ S1).bind fun d S2 => (F [.loc n, .loc S2.length] (S2 ++ [.fn k [d]])).noex.bind fun r S3 => if noCap (S3.set S2.length .dead) = true then .ok r (S3.set S2.length .dead) else .un else .un
    | _ => .un
  | _ => .un

/-! ### defs -/
def startE (n : Nat) (ds : List D) : Env := ds.map some ++ List.replicate (n - ds.length) none
def runDef (n : Nat) (body : FS) : FF := fun ds S => (body (startE n ds) S).bind fun c S1 => match c with
  | .ret d => .ok d S1
  | .next _ => .ok .non S1
  | _ => .un
def fUn : FF := fun _ _ => .un
/-- a lambda: its parameters, then what it captured -/
def runLam (n : Nat) (a : FE) : FF := fun ds S => a (startE n ds) S
/-- how deep a def may call itself -/
@[irreducible] def fuel : Nat := 5
theorem fuel_eq : fuel = 5 := by unfold fuel; rfl
theorem fuel_le {k : Nat} (h : k ≤ 5) : k ≤ fuel := by rw [fuel_eq]; exact h

/-! ### sorted(set(..)) of texts -/
theorem lts_irrefl : ∀ a : Cs, ltCs a a = false
  | [] => rfl
  | x :: a => by simp [ltCs, lts_irrefl a]
theorem lts_trans : ∀ {a b c : Cs}, ltCs a b = true → ltCs b c = true → ltCs a c = true
  | [], [], _, h, _ => by simp [ltCs] at h
  | [], _ :: _, [], _, h => by simp [ltCs] at h
  | [], _ :: _, _ :: _, _, _ => rfl
  | _ :: _, [], _, h, _ => by simp [ltCs] at h
  | _ :: _, _ :: _, [], _, h => by simp [ltCs] at h
  | x :: a, y :: b, z :: c, h1, h2 => by
    unfold ltCs at h1 h2 ⊢
    by_cases e1 : x < y
    · by_cases e2 : y < z
      · rw [if_pos (Nat.lt_trans e1 e2)]
      · rw [if_neg e2] at h2
        by_cases e3 : y = z
        · subst e3; rw [if_pos e1]
        · rw [if_neg e3] at h2; cases h2
    · rw [if_neg e1] at h1
      by_cases e4 : x = y
      · subst e4
        rw [if_pos rfl] at h1
        by_cases e2 : x < z
        · rw [if_pos e2]
        · rw [if_neg e2] at h2 ⊢
          by_cases e3 : x = z
          · rw [if_pos e3] at h2 ⊢
            exact lts_trans h1 h2
          · rw [if_neg e3] at h2; cases h2
      · rw [if_neg e4] at h1; cases h1
theorem lts_tri : ∀ a b : Cs, ltCs a b = true ∨ a = b ∨ ltCs b a = true
  | [], [] => .inr (.inl rfl)
  | [], _ :: _ => .inl rfl
  | _ :: _, [] => .inr (.inr rfl)
  | x :: a, y :: b => by
    unfold ltCs
    rcases Nat.lt_trichotomy x y with h | h | h
    · left; rw [if_pos h]
    · subst h
      rw [if_neg (Nat.lt_irrefl x), if_neg (Nat.lt_irrefl x), if_pos rfl, if_pos rfl]
      rcases lts_tri a b with h | h | h
      · exact .inl h
      · exact .inr (.inl (by rw [h]))
      · exact .inr (.inr h)
    · right; right; rw [if_pos h]
/-- a text laid into an ascending row of different texts -/
def insU (x : Cs) : List Cs → List Cs
  | [] => [x]
  | y :: r => if ltCs x y = true then x :: y :: r else if x = y then y :: r else y :: insU x r
def sortU : List Cs → List Cs
  | [] => []
  | x :: r => insU x (sortU r)
theorem insU_mem {x z : Cs} : ∀ {l : List Cs}, z ∈ insU x l ↔ z = x ∨ z ∈ l
  | [] => by simp [insU]
  | y :: r => by
    unfold insU
    split
    · simp
    · split
      · rename_i h
        subst h
        simp
      · rw [List.mem_cons, insU_mem, List.mem_cons]
        exact ⟨fun h => h.elim (fun h => .inr (.inl h)) fun h => h.elim .inl fun h => .inr (.inr h), fun h => h.elim (fun h => .inr (.inl h)) fun h => h.elim .inl fun h => .inr (.inr h)⟩
theorem insU_up {x : Cs} : ∀ {l : List Cs}, (l.Pairwise fun a b => ltCs a b = true) → (insU x l).Pairwise fun a b => ltCs a b = true
  | [], _ => by simp [insU]
  | y :: r, h => by
    obtain ⟨h1, h2⟩ := List.pairwise_cons.mp h
    unfold insU
    split
    · rename_i hx
      refine List.pairwise_cons.mpr ⟨fun z hz => ?_, h⟩
      rcases List.mem_cons.mp hz with e | e
      · rw [e]; exact hx
      · exact lts_trans hx (h1 z e)
    · rename_i hx
      split
      · exact h
      · rename_i hne
        refine List.pairwise_cons.mpr ⟨fun z hz => ?_, insU_up h2⟩
        rcases insU_mem.mp hz with e | e
        · rw [e]
          rcases lts_tri x y with q | q | q
          · exact absurd q hx
          · exact absurd q hne
          · exact q
        · exact h1 z e
theorem sortU_mem {z : Cs} : ∀ {l : List Cs}, z ∈ sortU l ↔ z ∈ l
  | [] => Iff.rfl
  | x :: r => by unfold sortU; rw [insU_mem, sortU_mem (l := r), List.mem_cons]
theorem sortU_up : ∀ l : List Cs, (sortU l).Pairwise fun a b => ltCs a b = true
  | [] => .nil
  | x :: r => insU_up (sortU_up r)
/-- an ascending row is told by its members -/
theorem up_uniq : ∀ {a b : List Cs}, (a.Pairwise fun x y => ltCs x y = true) → (b.Pairwise fun x y => ltCs x y = true) → (∀ z, z ∈ a ↔ z ∈ b) → a = b
  | [], [], _, _, _ => rfl
  | [], y :: b, _, _, h => absurd ((h y).mpr List.mem_cons_self) List.not_mem_nil
  | x :: a, [], _, _, h => absurd ((h x).mp List.mem_cons_self) List.not_mem_nil
  | x :: a, y :: b, ha, hb, h => by
    obtain ⟨a1, a2⟩ := List.pairwise_cons.mp ha
    obtain ⟨b1, b2⟩ := List.pairwise_cons.mp hb
    have no : ∀ {u v : Cs}, ltCs u v = true → ltCs v u = true → False := fun p q => by
      have := lts_trans p q
      rw [lts_irrefl] at this
      cases this
    have e : x = y := by
      rcases List.mem_cons.mp ((h x).mp List.mem_cons_self) with q | q
      · exact q
      · rcases List.mem_cons.mp ((h y).mpr List.mem_cons_self) with p | p
        · exact p.symm
        · exact (no (b1 x q) (a1 y p)).elim
    subst e
    refine congrArg (x :: ·) (up_uniq a2 b2 fun z => ⟨fun hz => ?_, fun hz => ?_⟩)
    · rcases List.mem_cons.mp ((h z).mp (List.mem_cons_of_mem _ hz)) with q | q
      · exact (no (q ▸ a1 z hz) (q ▸ a1 z hz)).elim
      · exact q
    · rcases List.mem_cons.mp ((h z).mpr (List.mem_cons_of_mem _ hz)) with q | q
      · exact (no (q ▸ b1 z hz) (q ▸ b1 z hz)).elim
      · exact q
/-- the texts that a text or a list holds -/
def textsOf : D → Option (List Cs)
  | .str s => some (s.map fun c => [c])
  | .lst ds => strsOf ds
  | _ => none
def bSortSet (a : D) : M D := fun S => match textsOf (res S a) with
  | some xs => if (sortU xs).length < 4095 then .ok (.lst ((sortU xs).map D.str)) S else .un
  | none => .un

end WF

set_option Elab.async false
set_option linter.all false
set_option maxRecDepth 100000
set_option maxHeartbeats 4000000
/-! # Found: data over the abstract heap; a def's denotation as its promise -/
namespace WF
open PySem L2

/-- where the store's objects lie; vol: what may change -/
structure Lay where
  loc : List Addr
  vol : Addr → Prop
  sub : ∀ a ∈ loc, vol a

abbrev sv (s : Cs) : PySem.Str := ⟨s.toArray⟩

/-- the program, the world, the written part -/
structure LamI where
  qual : PySem.Str
  params : Arguments
  body : Expr
  scope : Scope
  fr : List PySem.Str
/-- where the exception classes lie; the lambdas' words; the tables of code objects, with the name of what they hold -/
structure Cl where
  at_ : Nat → Addr
  lam : Nat → LamI
  tab : List (Addr × PySem.Str)
instance : CoeFun Cl (fun _ => Nat → Addr) := ⟨Cl.at_⟩
structure KW where
  P : Program
  w : World
  K : PySem.W.Frag
  L : Cl
instance : CoeHead KW PySem.W.Frag := ⟨KW.K⟩
/-- whom an exception goes to, and where the classes lie -/
structure Wh where
  E : XK
  cl : Cl
abbrev kwX (X : Cx) (U : Wh) : KW := ⟨X.prog, X.w, X.K, U.cl⟩

/-- a list of the module's own -/
def LsK (K : KW) (a : Addr) (xs : List V) : Prop := ∃ (o : Obj) (its : Array Value) (n : Nat), K.K.lookup a = some o ∧ o.cls = .type "list" ∧ o.dict = none ∧ o.data = .seq its n ∧ its.size ≤ sizeLine ∧ Vals xs its.toList
mutual
/-- a value shows a datum -/
inductive Rep (K : KW) (Y : Lay) (H : Hp) : D → V → Prop
  | non : Rep K Y H .non .non
  | bl (b : Bool) : Rep K Y H (.bl b) (.bl b)
  | int (i : Int) : Rep K Y H (.int i) (.int i)
  | str (s : Cs) : Rep K Y H (.str s) (.str (sv s))
  | tup {ds : List D} {a : Addr} {xs : List V} : SqT K H a xs → RepL K Y H ds xs → Rep K Y H (.tup ds) (.ref a)
  | lst {ds : List D} {a : Addr} {xs : List V} : Rd H a (.lst xs) → ¬ Y.vol a → RepL K Y H ds xs → Rep K Y H (.lst ds) (.ref a)
  | lsk {ds : List D} {a : Addr} {xs : List V} : LsK K a xs → RepL K Y H ds xs → Rep K Y H (.lst ds) (.ref a)
  | loc {n : Nat} {a : Addr} : Y.loc[n]? = some a → Rep K Y H (.loc n) (.ref a)
inductive RepL (K : KW) (Y : Lay) (H : Hp) : List D → List V → Prop
  | nil : RepL K Y H [] []
  | cons {d : D} {ds : List D} {v : V} {vs : List V} : Rep K Y H d v → RepL K Y H ds vs → RepL K Y H (d :: ds) (v :: vs)
end

/-- the later state: nothing but the store's objects has changed -/
structure Ext (Y : Lay) (H : Hp) (Y' : Lay) (H' : Hp) : Prop where
  pre : ∃ more, Y'.loc = Y.loc ++ more
  vol : ∀ a, Y.vol a → Y'.vol a
  keep : ∀ a o, H a = some o → a ∉ Y.loc → (∀ ps, o ≠ .tbl ps) → H' a = some o
  tups : ∀ a xs, Rd H a (.tup xs) → Rd H' a (.tup xs)
  fresh : ∀ a, Y'.vol a → Y.vol a ∨ H a = none
  newl : ∀ a, a ∈ Y'.loc → a ∈ Y.loc ∨ H a = none
  dom : ∀ a, H' a = none → H a = none
  frz : ∀ a od u, H a = some (.frz od u) → H' a = some (.frz od u)

/-- the class called c -/
def Nmd (K : KW) (c : Cs) (C : Addr) : Prop := PySem.W.nsIn K.K mainGlobals (sv c) = some (some (.ref C))
theorem Nmd.one {K : KW} {c : Cs} {C C' : Addr} (h : Nmd K c C) (h' : Nmd K c C') : C = C' := by
  have := h.symm.trans h'
  cases this
  rfl
/-- the attributes of an instance -/
def fieldsV (fs : List (Cs × D)) (vs : List V) : List (PySem.Str × V) := (fs.map fun p => sv p.1).zip vs
mutual
/-- the key that a datum is -/
def keyOf : D → Option NestedKey
  | .non => some .none
  | .int i => some (.num i)
  | .str s => some (.text (sv s))
  | .tup ds => (keysOf ds).map .tup
  | _ => none
def keysOf : List D → Option (List NestedKey)
  | [] => some []
  | d :: r => (keyOf d).bind fun k => (keysOf r).map (k :: ·)
end
/-- a dict's own object -/
def DictX (K : KW) (a : Addr) (xs : List (NestedKey × Addr × Value)) : HO := .ext fun h => (a == sysModules) = false ∧ ∃ o es ep, h.get? a = some o ∧ o.ExactDict ∧ o.data = .dict es ep ∧
  es.toList = xs.map (entryOfKey (nestedKind K.P K.w)) ∧ (xs.map (·.1)).Nodup
inductive RepKV (K : KW) (Y : Lay) (H : Hp) : List (D × D) → List (NestedKey × Addr × Value) → Prop
  | nil : RepKV K Y H [] []
  | cons {k d : D} {kvs : List (D × D)} {nk : NestedKey} {ka : Addr} {u : Value} {v : V} {xs : List (NestedKey × Addr × Value)} : keyOf k = some nk → nk.depth ≤ 8 → Rep K Y H k (.ref ka) → RelV v u → Rep K Y H d v → RepKV K Y H kvs xs → RepKV K Y H ((k, d) :: kvs) ((nk, ka, u) :: xs)
/-- the object at a is the lambda, made with the captured cells -/
def LamO (a : Addr) (L : LamI) (cells : List (PySem.Str × Addr)) (c : Addr) : HO := .ext fun h => ∃ (od : Option Addr) (sl : Array (Option Value)) (pm ctv : Value), h.get? a = some (⟨.type "function", od, .func (PySem.W.kla_fn "<lambda>" L.qual L.params L.body L.scope cells pm (.ref c) ctv), sl⟩ : Obj)
/-- the cell at c holds u, and nobody writes it meanwhile -/
def CellO (c : Addr) (ob : Obj) : HO := .ext fun h => h.get? c = some ob
/-- a captured cell -/
def CapOk (K : KW) (Y : Lay) (H : Hp) (d : D) (c : Addr) : Prop := ∃ (ob : Obj) (v : V) (u : Value), H c = some (CellO c ob) ∧ ¬ Y.vol c ∧ ob.data = .cell (some u) ∧ RelV v u ∧ Rep K Y H d v
/-- a function value: nothing captured, or one name -/
def FnV (K : KW) (Y : Lay) (H : Hp) (a : Addr) (L : LamI) (caps : List D) : Prop := ∃ (cells : List (PySem.Str × Addr)) (c : Addr), H a = some (LamO a L cells c) ∧ H c = some (LamX.CodeO c L.qual) ∧ ¬ Y.vol c ∧
  (match caps with
  | [] => cells = [] ∧ L.fr = []
  | [d] => ∃ x ca, L.fr = [x] ∧ cells = [(x, ca)] ∧ CapOk K Y H d ca
  | _ => False)
def MOk (K : KW) (Y : Lay) (H : Hp) (a : Addr) : MO → Prop
  | .fn k caps => FnV K Y H a (K.L.lam k) caps
  | .dead => True
  | .lst ds => ∃ xs, H a = some (.lst xs) ∧ RepL K Y H ds xs
  | .inst c fs => ∃ C dx vs, Nmd K c C ∧ H a = some (.ins C dx (fieldsV fs vs)) ∧ RepL K Y H (fs.map (·.2)) vs
  | .dict kvs => ∃ xs, H a = some (DictX K a xs) ∧ kvs.length ≤ sizeLine ∧ RepKV K Y H kvs xs
  | .frz kvs => ∃ od xs, H a = some (.frz od (DictX K a xs)) ∧ kvs.length ≤ sizeLine ∧ RepKV K Y H kvs xs

/-- the table at P, of code objects of the name q -/
def TabG (Y : Lay) (H : Hp) (P : Addr) (q : PySem.Str) : Prop := ¬ Y.vol P ∧ ∃ ps : Array Value, H P = some (.tbl ps) ∧ TriplesOk ps.toList ∧ ∀ (pos : Pos) (cv : Value), codeAmong pos ps.toList = some cv → ∃ c, cv = .ref c ∧ H c = some (LamX.CodeO c q) ∧ ¬ Y.vol c
structure Good (K : KW) (Y : Lay) (S : Store) (H : Hp) : Prop where
  len : Y.loc.length = S.length
  nd : Y.loc.Nodup
  at' : ∀ (n : Nat) (o : MO) (a : Addr), S[n]? = some o → Y.loc[n]? = some a → MOk K Y H a o
  there : ∀ a, Y.vol a → H a ≠ none
  tabs : ∀ p ∈ K.L.tab, TabG Y H p.1 p.2

theorem Ext.refl {Y : Lay} {H : Hp} : Ext Y H Y H := ⟨⟨[], by simp⟩, fun _ h => h, fun _ _ h _ _ => h, fun _ _ h => h, fun _ h => .inl h, fun _ h => .inl h, fun _ h => h, fun _ _ _ h => h⟩
theorem Ext.trans {Y Y1 Y2 : Lay} {H H1 H2 : Hp} (a : Ext Y H Y1 H1) (b : Ext Y1 H1 Y2 H2) : Ext Y H Y2 H2 := by
  obtain ⟨m1, e1⟩ := a.pre
  obtain ⟨m2, e2⟩ := b.pre
  refine ⟨⟨m1 ++ m2, by rw [e2, e1, List.append_assoc]⟩, fun x h => b.vol x (a.vol x h), fun x o h hn ht => ?_, fun x xs h => b.tups x xs (a.tups x xs h), fun x h => ?_, fun x h => ?_, fun x h => a.dom x (b.dom x h), fun x od u h => b.frz x od u (a.frz x od u h)⟩
  · refine b.keep x o (a.keep x o h hn ht) (fun q => ?_) ht
    rcases a.newl x q with z | z
    · exact hn z
    · rw [z] at h; cases h
  · rcases b.fresh x h with z | z
    · exact a.fresh x z
    · exact .inr (a.dom x z)
  · rcases b.newl x h with z | z
    · exact a.newl x z
    · exact .inr (a.dom x z)
/-- what data lean on: the objects that nobody changes -/
structure ExtV (Y : Lay) (H : Hp) (Y' : Lay) (H' : Hp) : Prop where
  pre : ∃ more, Y'.loc = Y.loc ++ more
  keep : ∀ a o, H a = some o → ¬ Y.vol a → (∀ ps, o ≠ .tbl ps) → H' a = some o
  tups : ∀ a xs, Rd H a (.tup xs) → Rd H' a (.tup xs)
  fresh : ∀ a, Y'.vol a → Y.vol a ∨ H a = none
theorem Ext.v {Y Y' : Lay} {H H' : Hp} (e : Ext Y H Y' H') : ExtV Y H Y' H' := ⟨e.pre, fun a o h n ht => e.keep a o h (fun z => n (Y.sub a z)) ht, e.tups, e.fresh⟩
theorem ExtV.rd {Y Y' : Lay} {H H' : Hp} (e : ExtV Y H Y' H') {a : Addr} {u : HO} (h : Rd H a u) (hn : ¬ Y.vol a) (ht : ∀ ps, u ≠ .tbl ps := by exact fun _ z => nomatch z) : Rd H' a u := by
  rcases h with h | ⟨o, h⟩
  · exact .inl (e.keep a _ h hn ht)
  · exact .inr ⟨o, e.keep a _ h hn fun _ z => nomatch z⟩
theorem ExtV.sqt {K : KW} {Y Y' : Lay} {H H' : Hp} (e : ExtV Y H Y' H') {a : Addr} {xs : List V} (h : SqT K H a xs) : SqT K H' a xs := by
  rcases h with h | h
  · exact .inl (e.tups a xs h)
  · exact .inr h
theorem Ext.rd {Y Y' : Lay} {H H' : Hp} (e : Ext Y H Y' H') {a : Addr} {u : HO} (h : Rd H a u) (hn : a ∉ Y.loc) (ht : ∀ ps, u ≠ .tbl ps := by exact fun _ z => nomatch z) : Rd H' a u := by
  rcases h with h | ⟨o, h⟩
  · exact .inl (e.keep a _ h hn ht)
  · exact .inr ⟨o, e.keep a _ h hn fun _ z => nomatch z⟩
theorem Rd.some {H : Hp} {a : Addr} {u : HO} (h : Rd H a u) : ∃ o, H a = some o := by
  rcases h with h | ⟨o, h⟩
  · exact ⟨_, h⟩
  · exact ⟨_, h⟩
theorem Ext.sqt {K : KW} {Y Y' : Lay} {H H' : Hp} (e : Ext Y H Y' H') {a : Addr} {xs : List V} (h : SqT K H a xs) : SqT K H' a xs := by
  rcases h with h | h
  · exact .inl (e.tups a xs h)
  · exact .inr h
mutual
theorem Rep.monoV {K : KW} {Y Y' : Lay} {H H' : Hp} (e : ExtV Y H Y' H') : ∀ {d : D} {v : V}, Rep K Y H d v → Rep K Y' H' d v
  | _, _, .non => .non
  | _, _, .bl b => .bl b
  | _, _, .int i => .int i
  | _, _, .str s => .str s
  | _, _, .tup h r => .tup (e.sqt h) (RepL.monoV e r)
  | _, _, .lst h hv r => .lst (e.rd h hv) (fun q => by
      rcases e.fresh _ q with z | z
      · exact hv z
      · obtain ⟨o, ho⟩ := Rd.some h
        rw [z] at ho; cases ho) (RepL.monoV e r)
  | _, _, .lsk h r => .lsk h (RepL.monoV e r)
  | _, _, .loc h => .loc (by
      obtain ⟨m, em⟩ := e.pre
      rw [em, List.getElem?_append_left (List.getElem?_eq_some_iff.mp h).1]
      exact h)
theorem RepL.monoV {K : KW} {Y Y' : Lay} {H H' : Hp} (e : ExtV Y H Y' H') : ∀ {ds : List D} {vs : List V}, RepL K Y H ds vs → RepL K Y' H' ds vs
  | _, _, .nil => .nil
  | _, _, .cons r t => .cons (Rep.monoV e r) (RepL.monoV e t)
end
theorem RepKV.monoV {K : KW} {Y Y' : Lay} {H H' : Hp} (e : ExtV Y H Y' H') : ∀ {kvs : List (D × D)} {xs : List (NestedKey × Addr × Value)}, RepKV K Y H kvs xs → RepKV K Y' H' kvs xs
  | _, _, .nil => .nil
  | _, _, .cons h1 h2 h3 h4 h5 t => .cons h1 h2 (h3.monoV e) h4 (h5.monoV e) (RepKV.monoV e t)
theorem Rep.mono {K : KW} {Y Y' : Lay} {H H' : Hp} (e : Ext Y H Y' H') {d : D} {v : V} (r : Rep K Y H d v) : Rep K Y' H' d v := r.monoV e.v
theorem RepL.mono {K : KW} {Y Y' : Lay} {H H' : Hp} (e : Ext Y H Y' H') {ds : List D} {vs : List V} (r : RepL K Y H ds vs) : RepL K Y' H' ds vs := r.monoV e.v
theorem RepL.len {K : KW} {Y : Lay} {H : Hp} : ∀ {ds : List D} {vs : List V}, RepL K Y H ds vs → ds.length = vs.length
  | _, _, .nil => rfl
  | _, _, .cons _ t => congrArg (· + 1) (RepL.len t)
theorem RepL.get {K : KW} {Y : Lay} {H : Hp} : ∀ {ds : List D} {vs : List V} {i : Nat} {d : D}, RepL K Y H ds vs → ds[i]? = some d → ∃ v, vs[i]? = some v ∧ Rep K Y H d v
  | _, _, _, _, .nil, e => by simp at e
  | _, _, 0, _, .cons r _, e => by simp at e; subst e; exact ⟨_, rfl, r⟩
  | _, _, i + 1, d, .cons _ t, e => by
    obtain ⟨u, h1, h2⟩ := RepL.get (i := i) (d := d) t (by simpa using e)
    exact ⟨u, by simpa using h1, h2⟩
theorem RepL.get' {K : KW} {Y : Lay} {H : Hp} : ∀ {ds : List D} {vs : List V} {i : Nat} {v : V}, RepL K Y H ds vs → vs[i]? = some v → ∃ d, ds[i]? = some d ∧ Rep K Y H d v
  | _, _, _, _, .nil, e => by simp at e
  | _, _, 0, _, .cons r _, e => by simp at e; subst e; exact ⟨_, rfl, r⟩
  | _, _, i + 1, d, .cons _ t, e => by
    obtain ⟨u, h1, h2⟩ := RepL.get' (i := i) (v := d) t (by simpa using e)
    exact ⟨u, by simpa using h1, h2⟩
theorem RepL.append {K : KW} {Y : Lay} {H : Hp} : ∀ {ds es : List D} {vs ws : List V}, RepL K Y H ds vs → RepL K Y H es ws → RepL K Y H (ds ++ es) (vs ++ ws)
  | _, _, _, _, .nil, h => h
  | _, _, _, _, .cons r t, h => .cons r (RepL.append t h)
theorem RepL.take {K : KW} {Y : Lay} {H : Hp} : ∀ {ds : List D} {vs : List V} (n : Nat), RepL K Y H ds vs → RepL K Y H (ds.take n) (vs.take n)
  | _, _, 0, _ => .nil
  | _, _, _ + 1, .nil => .nil
  | _, _, n + 1, .cons r t => .cons r (RepL.take n t)
theorem RepL.drop {K : KW} {Y : Lay} {H : Hp} : ∀ {ds : List D} {vs : List V} (n : Nat), RepL K Y H ds vs → RepL K Y H (ds.drop n) (vs.drop n)
  | _, _, 0, r => r
  | _, _, _ + 1, .nil => .nil
  | _, _, n + 1, .cons _ t => RepL.drop n t
theorem RepL.set {K : KW} {Y : Lay} {H : Hp} {d : D} {v : V} (r : Rep K Y H d v) : ∀ {ds : List D} {vs : List V} (i : Nat), RepL K Y H ds vs → RepL K Y H (ds.set i d) (vs.set i v)
  | _, _, _, .nil => .nil
  | _, _, 0, .cons _ t => .cons r t
  | _, _, i + 1, .cons q t => .cons q (RepL.set r i t)

theorem codeO_ne {c : Addr} {q : PySem.Str} : ∀ ps : Array Value, LamX.CodeO c q ≠ .tbl ps := fun ps z => by
  unfold LamX.CodeO at z
  cases z
theorem cellO_ne {c : Addr} {ob : Obj} : ∀ ps : Array Value, CellO c ob ≠ .tbl ps := fun ps z => by
  unfold CellO at z
  cases z
theorem ExtV.nv {Y Y' : Lay} {H H' : Hp} (e : ExtV Y H Y' H') {c : Addr} {o : HO} (h : H c = some o) (hv : ¬ Y.vol c) : ¬ Y'.vol c := fun z => by
  rcases e.fresh c z with q | q
  · exact hv q
  · rw [h] at q; cases q
theorem TabG.mono {Y Y' : Lay} {H H' : Hp} {P : Addr} {q : PySem.Str} (t : TabG Y H P q) (e : ExtV Y H Y' H') (k : H' P = H P) : TabG Y' H' P q := by
  obtain ⟨h0, ps, h1, h2, h3⟩ := t
  refine ⟨e.nv h1 h0, ps, k.trans h1, h2, fun pos cv hc => ?_⟩
  obtain ⟨c, e1, e2, e3⟩ := h3 pos cv hc
  exact ⟨c, e1, e.keep c _ e2 e3 codeO_ne, e.nv e2 e3⟩
theorem FnV.mono {K : KW} {Y Y' : Lay} {H H' : Hp} {a : Addr} {L : LamI} {caps : List D} (m : FnV K Y H a L caps) (e : ExtV Y H Y' H') (k : H' a = H a) : FnV K Y' H' a L caps := by
  obtain ⟨cells, c, h1, h2, h3, h4⟩ := m
  refine ⟨cells, c, k.trans h1, e.keep c _ h2 h3 codeO_ne, e.nv h2 h3, ?_⟩
  match caps, h4 with
  | [], h4 => exact h4
  | [d], ⟨x, ca, g1, g2, ob, v, u, g3, g4, g5, g6, g7⟩ => exact ⟨x, ca, g1, g2, ob, v, u, e.keep ca _ g3 g4 cellO_ne, e.nv g3 g4, g5, g6, g7.monoV e⟩
section
variable {K : KW} {Y Y' : Lay} {S : Store} {H H' : Hp} {p a : Addr} {o : HO}
theorem TabG.ne {P : Addr} {q : PySem.Str} (t : TabG Y H P q) (h : H p = none) : P ≠ p := fun z => by
  obtain ⟨_, ps, h1, _⟩ := t
  rw [z, h] at h1
  cases h1
theorem TabG.nev {P : Addr} {q : PySem.Str} (t : TabG Y H P q) (h : Y.vol p) : P ≠ p := fun z => t.1 (z ▸ h)
/-- a new object that nobody will change -/
theorem Ext.new (h : H p = none) : Ext Y H Y (upd H p o) := ⟨⟨[], by simp⟩, fun _ h => h, fun b u e _ _ => by rw [upd_ne (ne_of_none e h)]; exact e, fun b xs e => by
    obtain ⟨u, hu⟩ := Rd.some e
    unfold Rd
    rw [upd_ne (ne_of_none hu h)]
    exact e, fun _ h => .inl h, fun _ h => .inl h, fun b hb => by
    by_cases q : b = p
    · rw [q]; exact h
    · rw [upd_ne q] at hb; exact hb, fun b od u e => by rw [upd_ne (ne_of_none e h)]; exact e⟩
theorem MOk.monoV {mo : MO} (m : MOk K Y H a mo) (e : ExtV Y H Y' H') (k : H' a = H a) : MOk K Y' H' a mo := by
  cases mo with
  | lst ds => obtain ⟨xs, h1, h2⟩ := m; exact ⟨xs, k.trans h1, h2.monoV e⟩
  | dict kvs => obtain ⟨xs, h1, h0, h2⟩ := m; exact ⟨xs, k.trans h1, h0, h2.monoV e⟩
  | frz kvs => obtain ⟨od, xs, h1, h0, h2⟩ := m; exact ⟨od, xs, k.trans h1, h0, h2.monoV e⟩
  | inst c fs => obtain ⟨C, dx, vs, h0, h1, h2⟩ := m; exact ⟨C, dx, vs, h0, k.trans h1, h2.monoV e⟩
  | fn i caps => exact FnV.mono m e k
  | dead => exact trivial
theorem MOk.mono {mo : MO} (m : MOk K Y H a mo) (e : Ext Y H Y' H') (k : H' a = H a) : MOk K Y' H' a mo := m.monoV e.v k
/-- every object stands -/
theorem Good.same (g : Good K Y S H) (e : Ext Y H Y' H') (hl : Y'.loc = Y.loc) (k : ∀ a ∈ Y.loc, H' a = H a) (ht : ∀ a, Y'.vol a → H' a ≠ none) (kt : ∀ p ∈ K.L.tab, H' p.1 = H p.1) : Good K Y' S H' :=
  ⟨by rw [hl]; exact g.len, by rw [hl]; exact g.nd, fun n mo a h1 h2 => by
    rw [hl] at h2
    exact (g.at' n mo a h1 h2).mono e (k a (List.mem_of_getElem? h2)), ht, fun p hp => (g.tabs p hp).mono e.v (kt p hp)⟩
theorem Good.new (g : Good K Y S H) (h : H p = none) : Good K Y S (upd H p o) :=
  g.same (Ext.new h) rfl (fun a ha => upd_ne fun z => g.there a (Y.sub a ha) (by rw [z]; exact h)) (fun a ha => by
    by_cases q : a = p
    · rw [q, upd_same]; exact fun z => nomatch z
    · rw [upd_ne q]; exact g.there a ha) fun x hx => upd_ne ((g.tabs x hx).ne h)
def Lay.add (Y : Lay) (p : Addr) : Lay := ⟨Y.loc ++ [p], fun a => Y.vol a ∨ a = p, fun a h => by
  rcases List.mem_append.mp h with z | z
  · exact .inl (Y.sub a z)
  · exact .inr (by simpa using z)⟩
theorem Ext.add (h : H p = none) : Ext Y H (Y.add p) (upd H p o) :=
  have e : Ext Y H Y (upd H p o) := Ext.new h
  ⟨⟨[p], rfl⟩, fun a q => .inl q, e.keep, e.tups, fun a q => by
    rcases q with q | q
    · exact .inl q
    · exact .inr (by rw [q]; exact h), fun a q => by
    rcases List.mem_append.mp q with z | z
    · exact .inl z
    · exact .inr (by rw [List.mem_singleton.mp z]; exact h), e.dom, e.frz⟩
theorem Good.add {mo : MO} (g : Good K Y S H) (h : H p = none) (m : MOk K (Y.add p) (upd H p o) p mo) : Good K (Y.add p) (S ++ [mo]) (upd H p o) := by
  have hp : p ∉ Y.loc := fun z => g.there p (Y.sub p z) h
  refine ⟨?_, ?_, fun n m' a h1 h2 => ?_, fun a ha => ?_, fun x hx => (g.tabs x hx).mono (Ext.add h).v (upd_ne ((g.tabs x hx).ne h))⟩
  · show (Y.loc ++ [p]).length = _
    rw [List.length_append, List.length_append, g.len]; rfl
  · show (Y.loc ++ [p]).Nodup
    rw [List.nodup_append]
    exact ⟨g.nd, by simp, fun a ha b hb => by rw [List.mem_singleton.mp hb]; exact fun z => hp (z ▸ ha)⟩
  · by_cases hn : n < S.length
    · rw [List.getElem?_append_left hn] at h1
      have h2' : Y.loc[n]? = some a := by
        have : (Y.loc ++ [p])[n]? = some a := h2
        rwa [List.getElem?_append_left (by rw [g.len]; exact hn)] at this
      refine (g.at' n m' a h1 h2').mono (Ext.add h) (upd_ne fun z => hp (z ▸ List.mem_of_getElem? h2'))
    · have hn' : S.length ≤ n := by omega
      rw [List.getElem?_append_right hn'] at h1
      have h2' : (Y.loc ++ [p])[n]? = some a := h2
      rw [List.getElem?_append_right (by rw [g.len]; exact hn'), g.len] at h2'
      have z : n - S.length = 0 := by
        have := (List.getElem?_eq_some_iff.mp h1).1
        simpa using this
      rw [z] at h1 h2'
      simp at h1 h2'
      subst h1; subst h2'
      exact m
  · by_cases q : a = p
    · rw [q, upd_same]; exact fun z => nomatch z
    · rw [upd_ne q]
      rcases ha with z | z
      · exact g.there a z
      · exact absurd z q
/-- an object of the store is changed -/
theorem Ext.chg {n : Nat} (hn : Y.loc[n]? = some a) (nt : ∀ xs, ¬ Rd H a (.tup xs)) (nf : ∀ od u, H a ≠ some (.frz od u)) (hs : H a ≠ none) : Ext Y H Y (upd H a o) :=
  ⟨⟨[], by simp⟩, fun _ h => h, fun b u e q _ => by rw [upd_ne fun (z : b = a) => q (z ▸ List.mem_of_getElem? hn)]; exact e, fun b xs e => by
    have : b ≠ a := fun z => nt xs (z ▸ e)
    unfold Rd
    rw [upd_ne this]
    exact e, fun _ h => .inl h, fun _ h => .inl h, fun b hb => by
    by_cases q : b = a
    · rw [q, upd_same] at hb; cases hb
    · rw [upd_ne q] at hb; exact hb, fun b od u e => by rw [upd_ne fun (z : b = a) => nf od u (z ▸ e)]; exact e⟩
theorem Good.chg {n : Nat} {mo : MO} (g : Good K Y S H) (hn : Y.loc[n]? = some a) (nt : ∀ xs, ¬ Rd H a (.tup xs)) (nf : ∀ od u, H a ≠ some (.frz od u)) (m : MOk K Y (upd H a o) a mo) : Good K Y (S.set n mo) (upd H a o) := by
  have hs : H a ≠ none := g.there a (Y.sub a (List.mem_of_getElem? hn))
  refine ⟨by rw [List.length_set]; exact g.len, g.nd, fun k m' b h1 h2 => ?_, fun b hb => ?_, fun x hx => (g.tabs x hx).mono (Ext.chg hn nt nf hs).v (upd_ne ((g.tabs x hx).nev (Y.sub a (List.mem_of_getElem? hn))))⟩
  · by_cases q : k = n
    · subst q
      rw [hn] at h2; cases h2
      have hk : k < S.length := by rw [← g.len]; exact (List.getElem?_eq_some_iff.mp hn).1
      rw [List.getElem?_set_self hk] at h1
      cases h1
      exact m
    · rw [List.getElem?_set_ne (Ne.symm q)] at h1
      have ne : b ≠ a := fun z => by
        subst z
        obtain ⟨l1, e1⟩ := List.getElem?_eq_some_iff.mp h2
        obtain ⟨l2, e2⟩ := List.getElem?_eq_some_iff.mp hn
        exact q ((List.getElem_inj g.nd).mp (e1.trans e2.symm))
      exact (g.at' k m' b h1 h2).mono (Ext.chg hn nt nf hs) (upd_ne ne)
  · by_cases q : b = a
    · rw [q, upd_same]; exact fun z => nomatch z
    · rw [upd_ne q]; exact g.there b hb
end

/-! ### outcomes -/
def Wh.w (U : Wh) (c : Nat) (H : Hp) : Prop := U.E (.ref (U.cl c)) none H

def Pst {α : Type} (K : KW) (U : Wh) (Y : Lay) (H : Hp) (Φ : α → Store → Lay → Hp → Prop) : Res α → Prop
  | .ok a S' => ∀ Y' H', Ext Y H Y' H' → Good K Y' S' H' → Φ a S' Y' H'
  | .ex c S' => ∀ Y' H', Ext Y H Y' H' → Good K Y' S' H' → U.w c H'
  | .un => False
section
variable {α β : Type} {K : KW} {U : Wh} {Y Y' : Lay} {H H' : Hp} {Φ Ψ : α → Store → Lay → Hp → Prop} {Φ' : β → Store → Lay → Hp → Prop}
theorem Pst.mono {r : Res α} (h : Pst K U Y H Φ r) (e : Ext Y H Y' H') : Pst K U Y' H' Φ r := by
  cases r with
  | ok a S' => exact fun Y2 H2 e2 g2 => h Y2 H2 (e.trans e2) g2
  | ex c S' => exact fun Y2 H2 e2 g2 => h Y2 H2 (e.trans e2) g2
  | un => exact h
theorem Pst.imp {r : Res α} (h : Pst K U Y H Φ r) (f : ∀ a S' Y' H', Ext Y H Y' H' → Good K Y' S' H' → Φ a S' Y' H' → Ψ a S' Y' H') : Pst K U Y H Ψ r := by
  cases r with
  | ok a S' => exact fun Y2 H2 e2 g2 => f _ _ _ _ e2 g2 (h Y2 H2 e2 g2)
  | ex c S' => exact h
  | un => exact h
/-- step by step -/
theorem Pst.bind {r : Res α} {f : α → Store → Res β} (h : Pst K U Y H Φ' (r.bind f)) : Pst K U Y H (fun a S1 Y1 H1 => Pst K U Y1 H1 Φ' (f a S1)) r := by
  cases r with
  | ok a S' => exact fun Y2 H2 e2 g2 => Pst.mono (show Pst K U Y H Φ' (f a S') from h) e2
  | ex c S' => exact h
  | un => exact h
end

def RepS (K : KW) (Y : Lay) (H : Hp) (ρ : Env) (σ : St) : Prop := ρ.length = σ.length ∧ ∀ (i : Nat) (d : D), ρ[i]? = some (some d) → ∃ v : V, σ[i]? = some (some v) ∧ Rep K Y H d v
theorem RepS.mono {K : KW} {Y Y' : Lay} {H H' : Hp} {ρ : Env} {σ : St} (h : RepS K Y H ρ σ) (e : Ext Y H Y' H') : RepS K Y' H' ρ σ :=
  ⟨h.1, fun i d q => let ⟨v, h1, h2⟩ := h.2 i d q; ⟨v, h1, h2.mono e⟩⟩
theorem RepS.set {K : KW} {Y : Lay} {H : Hp} {ρ : Env} {σ : St} {d : D} {v : V} (h : RepS K Y H ρ σ) (r : Rep K Y H d v) (i : Nat) : RepS K Y H (ρ.set i (some d)) (σ.set i (some v)) := by
  refine ⟨by rw [List.length_set, List.length_set]; exact h.1, fun j e q => ?_⟩
  by_cases hj : i = j
  · subst hj
    by_cases hl : i < ρ.length
    · rw [List.getElem?_set_self hl] at q
      cases q
      exact ⟨v, List.getElem?_set_self (by rw [← h.1]; exact hl), r⟩
    · rw [List.getElem?_eq_none (by simpa using hl)] at q; cases q
  · rw [List.getElem?_set_ne hj] at q
    obtain ⟨u, h1, h2⟩ := h.2 j e q
    exact ⟨u, by rw [List.getElem?_set_ne hj]; exact h1, h2⟩
theorem RepS.setN {K : KW} {Y : Lay} {H : Hp} {ρ : Env} {σ : St} (h : RepS K Y H ρ σ) (i : Nat) : RepS K Y H (ρ.set i none) (σ.set i none) := by
  refine ⟨by rw [List.length_set, List.length_set]; exact h.1, fun j e q => ?_⟩
  by_cases hj : i = j
  · subst hj
    by_cases hl : i < ρ.length
    · rw [List.getElem?_set_self hl] at q; cases q
    · rw [List.getElem?_eq_none (by simpa using hl)] at q; cases q
  · rw [List.getElem?_set_ne hj] at q
    obtain ⟨u, h1, h2⟩ := h.2 j e q
    exact ⟨u, by rw [List.getElem?_set_ne hj]; exact h1, h2⟩
theorem RepS.wipe {K : KW} {Y : Lay} {H : Hp} {ρ : Env} {σ : St} (h : RepS K Y H ρ σ) : ∀ vs : List Nat, RepS K Y H (WF.wipe ρ vs) (L2.wipe σ vs)
  | [] => h
  | v :: vs => (RepS.wipe h vs).setN v

/-! ### the judgements -/
/-- what an expression's reading asks, told by its denotation -/
def DE (K : KW) (U : Wh) (te : TE) (F : FE) : Prop :=
  ∀ Y S H σ ρ Q, Good K Y S H → RepS K Y H ρ σ → Pst K U Y H (fun d _ Y' H' => ∀ v, Rep K Y' H' d v → Q v H') (F ρ S) → te σ H Q
structure PeF (X : Cx) (U : Wh) (e : Expr) (F : FE) : Prop where
  ex : ∃ te, PE X e te ∧ DE (kwX X U) U te F
def DT (K : KW) (U : Wh) (tt : TT) (F : FT) : Prop :=
  ∀ Y S H σ ρ Q, Good K Y S H → RepS K Y H ρ σ → Pst K U Y H (fun b _ _ H' => Q b H') (F ρ S) → tt σ H Q
structure PtF (X : Cx) (U : Wh) (e : Expr) (F : FT) : Prop where
  ex : ∃ tt, PT X e tt ∧ DT (kwX X U) U tt F
structure PwF (X : Cx) (U : Wh) (e : Expr) (F : FT) : Prop where
  ex : ∃ tt, PW X e tt ∧ DT (kwX X U) U tt F
def DA (K : KW) (U : Wh) (ta : TA) (F : List FE) : Prop :=
  ∀ Y S H σ ρ Q, Good K Y S H → RepS K Y H ρ σ → Pst K U Y H (fun ds _ Y' H' => ∀ vs, RepL K Y' H' ds vs → Q vs H') (evalAll F ρ S) → ta σ H Q
structure PaF (X : Cx) (U : Wh) (es : List Expr) (F : List FE) : Prop where
  ex : ∃ ta, PA X es ta ∧ DA (kwX X U) U ta F
/-- a statement: Φ of the way it ends -/
def EndsOk (K : KW) (En : Ends) : Ctl → Store → Lay → Hp → Prop := fun c _ Y H => match c with
  | .next ρ => ∀ σ, RepS K Y H ρ σ → En.nx σ H
  | .ret d => ∀ v, Rep K Y H d v → En.rt v H
  | .brk ρ => ∀ σ, RepS K Y H ρ σ → En.bk σ H
  | .cnt ρ => ∀ σ, RepS K Y H ρ σ → En.ct σ H
def DS (K : KW) (U : Wh) (ts : TS) (F : FS) : Prop :=
  ∀ Y S H σ ρ En, Good K Y S H → RepS K Y H ρ σ → Pst K U Y H (EndsOk K En) (F ρ S) → ts En σ H
structure PsF (X : Cx) (U : Wh) (st : Stmt) (F : FS) : Prop where
  ex : ∃ ts, PS X st ts ∧ DS (kwX X U) U ts F
structure PssF (X : Cx) (U : Wh) (sts : List Stmt) (F : FS) : Prop where
  ex : ∃ ts, PSs X sts ts ∧ DS (kwX X U) U ts F
/-- a target: it writes the slots ws alone -/
def DG (K : KW) (U : Wh) (ws : List Nat) (tg : TG) (F : FG) : Prop :=
  ∀ Y S H σ ρ d v Q, Good K Y S H → RepS K Y H ρ σ → Rep K Y H d v →
    Pst K U Y H (fun ρ' _ Y' H' => ∀ σ', RepS K Y' H' ρ' σ' → (∀ i, i ∉ ws → σ'[i]? = σ[i]?) → σ'.length = σ.length → Q σ' H') (F d ρ S) → tg v σ H Q
structure PgF (X : Cx) (U : Wh) (tgt : Expr) (ws : List Nat) (F : FG) : Prop where
  ex : ∃ tg, PG X tgt tg ∧ DG (kwX X U) U ws tg F

/-! ### the readings that the denotations stand for -/
def canonE (K : KW) (U : Wh) (F : FE) : TE := fun σ H Q => ∃ Y S ρ, Good K Y S H ∧ RepS K Y H ρ σ ∧ Pst K U Y H (fun d _ Y' H' => ∀ v, Rep K Y' H' d v → Q v H') (F ρ S)
def canonT (K : KW) (U : Wh) (F : FT) : TT := fun σ H Q => ∃ Y S ρ, Good K Y S H ∧ RepS K Y H ρ σ ∧ Pst K U Y H (fun b _ _ H' => Q b H') (F ρ S)
def canonG (K : KW) (U : Wh) (ws : List Nat) (F : FG) : TG := fun v σ H Q => ∃ Y S ρ d, Good K Y S H ∧ RepS K Y H ρ σ ∧ Rep K Y H d v ∧
  Pst K U Y H (fun ρ' _ Y' H' => ∀ σ', RepS K Y' H' ρ' σ' → (∀ i, i ∉ ws → σ'[i]? = σ[i]?) → σ'.length = σ.length → Q σ' H') (F d ρ S)
theorem PeF.canon {X : Cx} {U : Wh} {e : Expr} {F : FE} (h : PeF X U e F) : PE X e (canonE (kwX X U) U F) := by
  obtain ⟨te, p, q⟩ := h
  exact ⟨fun pins s σ H Q I ⟨Y, S, ρ, g, r, k⟩ => p.run pins s σ H Q I (q Y S H σ ρ Q g r k)⟩
theorem PgF.canon {X : Cx} {U : Wh} {e : Expr} {ws : List Nat} {F : FG} (h : PgF X U e ws F) : PG X e (canonG (kwX X U) U ws F) := by
  obtain ⟨te, p, q⟩ := h
  exact ⟨fun pins s σ H v u Q I rv ⟨Y, S, ρ, d, g, r, rd, k⟩ => p.run pins s σ H v u Q I rv (q Y S H σ ρ d v Q g r rd k)⟩
end WF

set_option Elab.async false
set_option linter.all false
set_option maxRecDepth 100000
set_option maxHeartbeats 4000000
/-! # Rules1: values, operators, built-in functions -/
namespace WF
open PySem L2 PyProof.Rows

theorem lim_eq : lim = sizeLine := by rw [sizeLine_eq]
theorem sv_len (s : Cs) : (sv s).length = s.length := by simp [Str.length]
theorem sv_inj {s t : Cs} : sv s = sv t ↔ s = t := by
  constructor
  · intro h
    have := congrArg (fun x : PySem.Str => x.cps.toList) h
    simpa using this
  · rintro rfl; rfl
theorem sv_app (s t : Cs) : sv s ++ sv t = sv (s ++ t) := by
  show (Str.mk _ : PySem.Str) = _
  simp

/-- what is asked of a new datum: ahead of a rule's end -/
abbrev PD (K : KW) (Q : VK) : D → Store → Lay → Hp → Prop := fun d _ Y H => ∀ v, Rep K Y H d v → Q v H

section
variable {K : KW} {U : Wh} {Y : Lay} {S : Store} {H : Hp} {Q : VK} {d : D} {v : V}
/-- an outcome at once -/
theorem Pst.now {α : Type} {Φ : α → Store → Lay → Hp → Prop} {a : α} (h : Pst K U Y H Φ (.ok a S)) (g : Good K Y S H) : Φ a S Y H := h Y H Ext.refl g
theorem Pst.val (h : Pst K U Y H (PD K Q) (.ok d S)) (g : Good K Y S H) (r : Rep K Y H d v) : Q v H := h Y H Ext.refl g v r
/-- a new object that nobody changes -/
theorem Pst.fresh (h : Pst K U Y H (PD K Q) (.ok d S)) (g : Good K Y S H) {p : Addr} {o : HO} (hp : H p = none) (r : Rep K Y (upd H p o) d (.ref p)) : Q (.ref p) (upd H p o) :=
  h Y _ (Ext.new hp) (g.new hp) _ r
theorem Rep.newT {ds : List D} {xs : List V} {p : Addr} (hp : H p = none) (r : RepL K Y H ds xs) : Rep K Y (upd H p (.tup xs)) (.tup ds) (.ref p) :=
  .tup (.inl (.inl upd_same)) (r.mono (Ext.new hp))
theorem Rep.newL {ds : List D} {xs : List V} {p : Addr} (g : Good K Y S H) (hp : H p = none) (r : RepL K Y H ds xs) : Rep K Y (upd H p (.lst xs)) (.lst ds) (.ref p) :=
  .lst (.inl upd_same) (fun z => g.there p z hp) (r.mono (Ext.new hp))
end

/-! ### names and constants -/
section
variable {X : Cx} {U : Wh} {e : Expr}
theorem pf_var (i : Nat) {x : PySem.Str} {pos : Pos} (hN : X.N[i]? = some x := by rfl) (hv : Vis X.env.scope x := by first | exact Or.inl rfl | exact Or.inr (Or.inl rfl) | exact Or.inr (Or.inr rfl))
    (hd : (x == ("__debug__" : PySem.Str)) = false := by decide) (hcd : (x == ("__classdict__" : PySem.Str)) = false := by decide) : PeF X U (.Name x pos) (dVar i) := by
  refine ⟨_, pe_var hN hv hd hcd, fun Y S H σ ρ Q g r h => ?_⟩
  unfold dVar at h
  split at h
  · rename_i d e
    obtain ⟨v, h1, h2⟩ := r.2 i d e
    exact ⟨v, h1, h.val g h2⟩
  · exact h.elim
theorem DE.const {K : KW} {v : V} {d : D} (h : ∀ Y H, Rep K Y H d v) : DE K U (tC v) (dC d) := fun Y S H σ ρ Q g r q => q.val g (h Y H)
theorem pf_int {i : Int} {j pos} : PeF X U (.Constant (.int i) j pos) (dC (.int i)) := ⟨_, pe_int, DE.const fun _ _ => .int i⟩
theorem pf_bl {b : Bool} {j pos} : PeF X U (.Constant (.bool b) j pos) (dC (.bl b)) := ⟨_, pe_bl, DE.const fun _ _ => .bl b⟩
theorem pf_non {j pos} : PeF X U (.Constant .none j pos) (dC .non) := ⟨_, pe_non, DE.const fun _ _ => .non⟩
theorem pf_str {x : PySem.Str} {s : Cs} {j pos} (h : x = sv s) : PeF X U (.Constant (.str x) j pos) (dC (.str s)) := ⟨_, pe_str, by rw [h]; exact DE.const fun _ _ => .str s⟩
/-- a module's constant -/
theorem pf_globStr {x : PySem.Str} {s : Cs} {pos : Pos} {t : Tok} {y : PySem.Str} (hm : X.mg x = some (.str y t)) (h : y = sv s) (hg : Gl X x := by rfl) (hd : (x == ("__debug__" : PySem.Str)) = false := by decide) :
    PeF X U (.Name x pos) (dC (.str s)) := ⟨_, pe_glob hg hm (v := .str (sv s)) ⟨t, by rw [h]⟩ hd, DE.const fun _ _ => .str s⟩
theorem pf_globInt {x : PySem.Str} {i : Int} {pos : Pos} {t : Tok} (hm : X.mg x = some (.int i t)) (hg : Gl X x := by rfl) (hd : (x == ("__debug__" : PySem.Str)) = false := by decide) :
    PeF X U (.Name x pos) (dC (.int i)) := ⟨_, pe_glob hg hm (v := .int i) ⟨t, rfl⟩ hd, DE.const fun _ _ => .int i⟩

/-! ### operators -/
def OpF (X : Cx) (U : Wh) (f : Value → Value → Sem Value) (g : D → D → M D) : Prop :=
  ∃ r, OpR X f r ∧ ∀ Y S H a b x y Q, Good (kwX X U) Y S H → Rep (kwX X U) Y H a x → Rep (kwX X U) Y H b y → Pst (kwX X U) U Y H (PD (kwX X U) Q) (g a b S) → r x y H Q
theorem DE.op {K : KW} {ta tb : TE} {Fa Fb : FE} {r : R2} {g : D → D → M D} (ha : DE K U ta Fa) (hb : DE K U tb Fb)
    (hr : ∀ Y S H a b x y Q, Good K Y S H → Rep K Y H a x → Rep K Y H b y → Pst K U Y H (PD K Q) (g a b S) → r x y H Q) : DE K U (tOp r ta tb) (dBin g Fa Fb) := fun Y S H σ ρ Q g0 rs h =>
  ha Y S H σ ρ _ g0 rs ((Pst.bind h).imp fun a S1 Y1 H1 e1 g1 h1 x rx => hb Y1 S1 H1 σ ρ _ g1 (rs.mono e1) ((Pst.bind h1).imp fun b S2 Y2 H2 e2 g2 h2 y ry =>
    hr Y2 S2 H2 a b x y Q g2 (rx.mono e2) ry h2))
variable {a b c : Expr} {Fa Fb Fc : FE} {pos : Pos} {g g' : D → D → M D}
theorem pf_bin {op : Operator} (ho : OpF X U (binaryOp op) g) (ha : PeF X U a Fa) (hb : PeF X U b Fb) : PeF X U (.BinOp a op b pos) (dBin g Fa Fb) := by
  obtain ⟨ta, p1, q1⟩ := ha
  obtain ⟨tb, p2, q2⟩ := hb
  obtain ⟨r, hr, h⟩ := ho
  exact ⟨_, pe_op hr p1 p2, DE.op q1 q2 h⟩
theorem pf_cmp {op : CmpOp} (ho : OpF X U (compareOp op) g) (ha : PeF X U a Fa) (hb : PeF X U b Fb) (hm : behindInMarks op b = false := by first | exact nomark _ | rfl) : PeF X U (.Compare a [op] [b] pos) (dBin g Fa Fb) := by
  obtain ⟨ta, p1, q1⟩ := ha
  obtain ⟨tb, p2, q2⟩ := hb
  obtain ⟨r, hr, h⟩ := ho
  exact ⟨_, pe_cmpR hr p1 p2 hm, DE.op q1 q2 h⟩
/-- a value as a test -/
theorem DT.val {K : KW} {te : TE} {F : FE} (h : DE K U te F) : DT K U (tTest te) (tVal F) := fun Y S H σ ρ Q g0 rs q =>
  h Y S H σ ρ _ g0 rs ((Pst.bind q).imp fun d S1 Y1 H1 e1 g1 h1 x rx => by
    cases rx with
    | bl b => exact ⟨b, rfl, h1.now g1⟩
    | _ => exact h1.elim)
theorem DT.valB {K : KW} {te : TE} {F : FE} (h : DE K U te F) : DT K U (tB te) (tVal F) := fun Y S H σ ρ Q g0 rs q =>
  h Y S H σ ρ _ g0 rs ((Pst.bind q).imp fun d S1 Y1 H1 e1 g1 h1 x rx => by
    cases rx with
    | bl b => exact ⟨b, rfl, h1.now g1⟩
    | _ => exact h1.elim)
theorem pt_cmp {op : CmpOp} (ho : OpF X U (compareOp op) g) (ha : PeF X U a Fa) (hb : PeF X U b Fb) (hm : behindInMarks op b = false := by first | exact nomark _ | rfl) : PtF X U (.Compare a [op] [b] pos) (tVal (dBin g Fa Fb)) := by
  obtain ⟨ta, p1, q1⟩ := ha
  obtain ⟨tb, p2, q2⟩ := hb
  obtain ⟨r, hr, h⟩ := ho
  exact ⟨_, pt_cmpR hr p1 p2 hm, DT.val (DE.op q1 q2 h)⟩
theorem pt_of {e : Expr} {F : FE} (h : PeF X U e F) (he : ∀ whole, isTrue e X.env whole = (do let v ← whole; standAt e.pos; holding [v] (truthy v)) := by intro _; rfl) : PtF X U e (tVal F) := by
  obtain ⟨te, p, q⟩ := h
  exact ⟨_, pt_val p he, DT.valB q⟩
/-- is None, is not None -/
theorem pf_isN {j pos'} (ha : PeF X U a Fa) : PeF X U (.Compare a [.Is] [.Constant .none j pos'] pos) (dUn gIsNon Fa) := by
  obtain ⟨ta, p, q⟩ := ha
  refine ⟨_, pe_cmp (pc_isN p) rfl, fun Y S H σ ρ Q g0 rs h => q Y S H σ ρ _ g0 rs ((Pst.bind h).imp fun d S1 Y1 H1 e1 g1 h1 x rx => ?_)⟩
  have e : decide (x = V.non) = d.isNon := by cases rx <;> rfl
  rw [e]
  exact h1.val g1 (.bl _)
theorem pf_notN {j pos'} (ha : PeF X U a Fa) : PeF X U (.Compare a [.IsNot] [.Constant .none j pos'] pos) (dUn gNotNon Fa) := by
  obtain ⟨ta, p, q⟩ := ha
  refine ⟨_, pe_cmp (pc_notN p) rfl, fun Y S H σ ρ Q g0 rs h => q Y S H σ ρ _ g0 rs ((Pst.bind h).imp fun d S1 Y1 H1 e1 g1 h1 x rx => ?_)⟩
  have e : decide (x = V.non) = d.isNon := by cases rx <;> rfl
  rw [e]
  exact h1.val g1 (.bl _)
theorem pt_isN {j pos'} (ha : PeF X U a Fa) : PtF X U (.Compare a [.Is] [.Constant .none j pos'] pos) (tVal (dUn gIsNon Fa)) := by
  obtain ⟨ta, p, q⟩ := ha
  refine ⟨_, L2.pt_cmp (pc_isN p) rfl, DT.valB fun Y S H σ ρ Q g0 rs h => q Y S H σ ρ _ g0 rs ((Pst.bind h).imp fun d S1 Y1 H1 e1 g1 h1 x rx => ?_)⟩
  have e : decide (x = V.non) = d.isNon := by cases rx <;> rfl
  rw [e]
  exact h1.val g1 (.bl _)
theorem pt_notN {j pos'} (ha : PeF X U a Fa) : PtF X U (.Compare a [.IsNot] [.Constant .none j pos'] pos) (tVal (dUn gNotNon Fa)) := by
  obtain ⟨ta, p, q⟩ := ha
  refine ⟨_, L2.pt_cmp (pc_notN p) rfl, DT.valB fun Y S H σ ρ Q g0 rs h => q Y S H σ ρ _ g0 rs ((Pst.bind h).imp fun d S1 Y1 H1 e1 g1 h1 x rx => ?_)⟩
  have e : decide (x = V.non) = d.isNon := by cases rx <;> rfl
  rw [e]
  exact h1.val g1 (.bl _)

/-! ### and, or, not -/
variable {rest : List Expr}
theorem pf_one {op} (h : PeF X U a Fa) : PeF X U (.BoolOp op [a] pos) Fa := by
  obtain ⟨ta, p, q⟩ := h
  exact ⟨_, pe_one p, q⟩
theorem pf_and (ha : PeF X U a Fa) (hb : PeF X U (.BoolOp .And (b :: rest) pos) Fb) : PeF X U (.BoolOp .And (a :: b :: rest) pos) (dAnd Fa Fb) := by
  obtain ⟨ta, p1, q1⟩ := ha
  obtain ⟨tb, p2, q2⟩ := hb
  refine ⟨_, pe_and p1 p2, fun Y S H σ ρ Q g0 rs h => q1 Y S H σ ρ _ g0 rs ((Pst.bind h).imp fun d S1 Y1 H1 e1 g1 h1 x rx => ?_)⟩
  cases rx with
  | bl k =>
    refine ⟨k, rfl, ?_⟩
    cases k with
    | true => rw [if_pos rfl]; exact q2 Y1 S1 H1 σ ρ Q g1 (rs.mono e1) h1
    | false => rw [if_neg Bool.false_ne_true]; exact h1.val g1 (.bl false)
  | _ => exact h1.elim
theorem pf_or (ha : PeF X U a Fa) (hb : PeF X U (.BoolOp .Or (b :: rest) pos) Fb) : PeF X U (.BoolOp .Or (a :: b :: rest) pos) (dOr Fa Fb) := by
  obtain ⟨ta, p1, q1⟩ := ha
  obtain ⟨tb, p2, q2⟩ := hb
  refine ⟨_, pe_or p1 p2, fun Y S H σ ρ Q g0 rs h => q1 Y S H σ ρ _ g0 rs ((Pst.bind h).imp fun d S1 Y1 H1 e1 g1 h1 x rx => ?_)⟩
  cases rx with
  | bl k =>
    refine ⟨k, rfl, ?_⟩
    cases k with
    | false => rw [if_neg Bool.false_ne_true]; exact q2 Y1 S1 H1 σ ρ Q g1 (rs.mono e1) h1
    | true => rw [if_pos rfl]; exact h1.val g1 (.bl true)
  | _ => exact h1.elim
theorem pf_not (ha : PeF X U a Fa) : PeF X U (.UnaryOp .Not a pos) (dNot Fa) := by
  obtain ⟨ta, p, q⟩ := ha
  refine ⟨_, pe_not p, fun Y S H σ ρ Q g0 rs h => q Y S H σ ρ _ g0 rs ((Pst.bind h).imp fun d S1 Y1 H1 e1 g1 h1 x rx => ?_)⟩
  cases rx with
  | bl k => exact ⟨k, rfl, h1.val g1 (.bl _)⟩
  | _ => exact h1.elim
variable {Ta Tb : FT}
theorem PwF.pt {e : Expr} {F : FT} (h : PwF X U e F) : PtF X U e F := by
  obtain ⟨t, p, q⟩ := h
  exact ⟨_, p.pt, q⟩
theorem pw_and1 (ha : PtF X U a Ta) : PwF X U (.BoolOp .And [a] pos) Ta := by
  obtain ⟨t, p, q⟩ := ha
  exact ⟨_, L2.pw_and1 p, q⟩
theorem pw_or1 (ha : PtF X U a Ta) : PwF X U (.BoolOp .Or [a] pos) Ta := by
  obtain ⟨t, p, q⟩ := ha
  exact ⟨_, L2.pw_or1 p, q⟩
theorem pw_and (ha : PtF X U a Ta) (hb : PwF X U (.BoolOp .And (b :: rest) pos) Tb) : PwF X U (.BoolOp .And (a :: b :: rest) pos) (tAnd Ta Tb) := by
  obtain ⟨t1, p1, q1⟩ := ha
  obtain ⟨t2, p2, q2⟩ := hb
  refine ⟨_, L2.pw_and p1 p2, fun Y S H σ ρ Q g0 rs h => q1 Y S H σ ρ _ g0 rs ((Pst.bind h).imp fun k S1 Y1 H1 e1 g1 h1 => ?_)⟩
  cases k with
  | true => rw [if_pos rfl]; exact q2 Y1 S1 H1 σ ρ Q g1 (rs.mono e1) h1
  | false => rw [if_neg Bool.false_ne_true]; exact h1.now g1
theorem pw_or (ha : PtF X U a Ta) (hb : PwF X U (.BoolOp .Or (b :: rest) pos) Tb) : PwF X U (.BoolOp .Or (a :: b :: rest) pos) (tOr Ta Tb) := by
  obtain ⟨t1, p1, q1⟩ := ha
  obtain ⟨t2, p2, q2⟩ := hb
  refine ⟨_, L2.pw_or p1 p2, fun Y S H σ ρ Q g0 rs h => q1 Y S H σ ρ _ g0 rs ((Pst.bind h).imp fun k S1 Y1 H1 e1 g1 h1 => ?_)⟩
  cases k with
  | true => rw [if_pos rfl]; exact h1.now g1
  | false => rw [if_neg Bool.false_ne_true]; exact q2 Y1 S1 H1 σ ρ Q g1 (rs.mono e1) h1
theorem pt_not (ha : PtF X U a Ta) : PtF X U (.UnaryOp .Not a pos) (tNot Ta) := by
  obtain ⟨t, p, q⟩ := ha
  exact ⟨_, L2.pt_not p, fun Y S H σ ρ Q g0 rs h => q Y S H σ ρ _ g0 rs ((Pst.bind h).imp fun k S1 Y1 H1 e1 g1 h1 => h1.now g1)⟩
theorem pf_if (ht : PtF X U c Ta) (ha : PeF X U a Fa) (hb : PeF X U b Fb) : PeF X U (.IfExp c a b pos) (dIf Ta Fa Fb) := by
  obtain ⟨t, p0, q0⟩ := ht
  obtain ⟨ta, p1, q1⟩ := ha
  obtain ⟨tb, p2, q2⟩ := hb
  refine ⟨_, pe_ifExp p0 p1 p2, fun Y S H σ ρ Q g0 rs h => q0 Y S H σ ρ _ g0 rs ((Pst.bind h).imp fun k S1 Y1 H1 e1 g1 h1 => ?_)⟩
  cases k with
  | true => exact q1 Y1 S1 H1 σ ρ Q g1 (rs.mono e1) h1
  | false => exact q2 Y1 S1 H1 σ ρ Q g1 (rs.mono e1) h1
/-- a op1 b op2 c -/
theorem DE.chain {K : KW} {ta tb tc : TE} {r r' : R2} (ha : DE K U ta Fa) (hb : DE K U tb Fb) (hc : DE K U tc Fc)
    (hr : ∀ Y S H a b x y Q, Good K Y S H → Rep K Y H a x → Rep K Y H b y → Pst K U Y H (PD K Q) (g a b S) → r x y H Q)
    (hr' : ∀ Y S H a b x y Q, Good K Y S H → Rep K Y H a x → Rep K Y H b y → Pst K U Y H (PD K Q) (g' a b S) → r' x y H Q)
    (hx : ∀ Y S H a b x y Q, Good K Y S H → Rep K Y H a x → Rep K Y H b y → r x y H Q → True) :
    DE K U (tChain r r' ta tb tc) (dChain g g' Fa Fb Fc) := fun Y S H σ ρ Q g0 rs h =>
  ha Y S H σ ρ _ g0 rs ((Pst.bind h).imp fun a S1 Y1 H1 e1 g1 h1 x rx => hb Y1 S1 H1 σ ρ _ g1 (rs.mono e1) ((Pst.bind h1).imp fun b S2 Y2 H2 e2 g2 h2 y ry =>
    hr Y2 S2 H2 a b x y _ g2 (rx.mono e2) ry ((Pst.bind h2).imp fun z S3 Y3 H3 e3 g3 h3 w rw' => by
      cases rw' with
      | bl k =>
        refine ⟨k, rfl, ?_⟩
        cases k with
        | true =>
          rw [if_pos rfl]
          exact hc Y3 S3 H3 σ ρ _ g3 ((rs.mono e1).mono (e2.trans e3)) ((Pst.bind h3).imp fun u S4 Y4 H4 e4 g4 h4 w4 r4 => hr' Y4 S4 H4 b u y w4 Q g4 (ry.mono (e3.trans e4)) r4 h4)
        | false =>
          rw [if_neg Bool.false_ne_true]
          exact h3.val g3 (.bl false)
      | _ => exact h3.elim)))
theorem pf_chain {op op' : CmpOp} (ho : OpF X U (compareOp op) g) (ho' : OpF X U (compareOp op') g') (ha : PeF X U a Fa) (hb : PeF X U b Fb) (hc : PeF X U c Fc)
    (hm : lastMarks [op, op'] [b, c] = false := by with_unfolding_all rfl) : PeF X U (.Compare a [op, op'] [b, c] pos) (dChain g g' Fa Fb Fc) := by
  obtain ⟨ta, p1, q1⟩ := ha
  obtain ⟨tb, p2, q2⟩ := hb
  obtain ⟨tc, p3, q3⟩ := hc
  obtain ⟨r, hr, h⟩ := ho
  obtain ⟨r', hr', h'⟩ := ho'
  exact ⟨_, pe_chain hr hr' p1 p2 p3 hm, DE.chain q1 q2 q3 h h' fun _ _ _ _ _ _ _ _ _ _ _ _ => trivial⟩
theorem pt_chain {op op' : CmpOp} (ho : OpF X U (compareOp op) g) (ho' : OpF X U (compareOp op') g') (ha : PeF X U a Fa) (hb : PeF X U b Fb) (hc : PeF X U c Fc)
    (hm : lastMarks [op, op'] [b, c] = false := by with_unfolding_all rfl) : PtF X U (.Compare a [op, op'] [b, c] pos) (tVal (dChain g g' Fa Fb Fc)) := by
  obtain ⟨ta, p1, q1⟩ := ha
  obtain ⟨tb, p2, q2⟩ := hb
  obtain ⟨tc, p3, q3⟩ := hc
  obtain ⟨r, hr, h⟩ := ho
  obtain ⟨r', hr', h'⟩ := ho'
  exact ⟨_, L2.pt_chain hr hr' p1 p2 p3 hm, DT.val (DE.chain q1 q2 q3 h h' fun _ _ _ _ _ _ _ _ _ _ _ _ => trivial)⟩

/-! ### arguments, displays -/
variable {es : List Expr} {Fs : List FE}
theorem paf_nil : PaF X U [] [] := ⟨_, pa_nil, fun Y S H σ ρ Q g0 rs h => h.now g0 [] .nil⟩
theorem paf_cons (ha : PeF X U a Fa) (hr : PaF X U es Fs) (hs : starEach (a :: es) X.env = (false, eval a X.env) :: starEach es X.env := by rfl) : PaF X U (a :: es) (Fa :: Fs) := by
  obtain ⟨ta, p1, q1⟩ := ha
  obtain ⟨tr, p2, q2⟩ := hr
  exact ⟨_, pa_cons p1 p2 hs, fun Y S H σ ρ Q g0 rs h => q1 Y S H σ ρ _ g0 rs ((Pst.bind h).imp fun d S1 Y1 H1 e1 g1 h1 x rx => q2 Y1 S1 H1 σ ρ _ g1 (rs.mono e1)
    ((Pst.bind h1).imp fun ds S2 Y2 H2 e2 g2 h2 xs rxs => h2.now g2 _ (.cons (rx.mono e2) rxs)))⟩
theorem evalAll_len : ∀ {as : List FE} {ρ : Env} {S S' : Store} {ds : List D}, evalAll as ρ S = .ok ds S' → ds.length = as.length
  | [], ρ, S, S', ds, h => by cases h; rfl
  | a :: r, ρ, S, S', ds, h => by
    unfold evalAll at h
    cases e : a ρ S with
    | un => rw [e] at h; cases h
    | ex c T => rw [e] at h; cases h
    | ok d T =>
      rw [e] at h
      simp only [Res.ok_bind] at h
      cases e2 : evalAll r ρ T with
      | un => rw [e2] at h; cases h
      | ex c T => rw [e2] at h; cases h
      | ok es T2 =>
        rw [e2] at h
        cases h
        simp [evalAll_len e2]
theorem pf_tup {x1} (h : PaF X U es Fs) (hl : Fs.length ≤ 1000 := by exact Nat.le_of_ble_eq_true rfl) : PeF X U (.Tuple es x1 pos) (dTup Fs) := by
  obtain ⟨ta, p, q⟩ := h
  refine ⟨_, pe_tup p, fun Y S H σ ρ Q g0 rs h => q Y S H σ ρ _ g0 rs ?_⟩
  unfold dTup at h
  cases e : evalAll Fs ρ S with
  | un => rw [e] at h; exact h
  | ex c T => rw [e] at h; exact h
  | ok ds T =>
    rw [e] at h
    intro Y1 H1 e1 g1 vs rv
    have hz := evalAll_len e
    have hv := rv.len
    exact ⟨Nat.le_of_lt (small1000 (by omega)), fun p hp => (show Pst _ _ _ _ _ (.ok (.tup ds) T) from h).mono e1 |>.fresh g1 hp (Rep.newT hp rv)⟩
theorem pf_lst (h : PaF X U es Fs) (hl : Fs.length ≤ 1000 := by exact Nat.le_of_ble_eq_true rfl) : PeF X U (.List es pos) (dLst Fs) := by
  obtain ⟨ta, p, q⟩ := h
  refine ⟨_, pe_lst p, fun Y S H σ ρ Q g0 rs h => q Y S H σ ρ _ g0 rs ?_⟩
  unfold dLst at h
  cases e : evalAll Fs ρ S with
  | un => rw [e] at h; exact h
  | ex c T => rw [e] at h; exact h
  | ok ds T =>
    rw [e] at h
    intro Y1 H1 e1 g1 vs rv
    have hz := evalAll_len e
    have hv := rv.len
    exact ⟨Nat.le_of_lt (small1000 (by omega)), fun p hp => (show Pst _ _ _ _ _ (.ok (.lst ds) T) from h).mono e1 |>.fresh g1 hp (Rep.newL g1 hp rv)⟩
/-- a new list that will be changed -/
theorem pf_new (h : PaF X U es Fs) (hl : Fs.length ≤ 1000 := by exact Nat.le_of_ble_eq_true rfl) : PeF X U (.List es pos) (dNew Fs) := by
  obtain ⟨ta, p, q⟩ := h
  refine ⟨_, pe_lst p, fun Y S H σ ρ Q g0 rs h => q Y S H σ ρ _ g0 rs ?_⟩
  unfold dNew at h
  cases e : evalAll Fs ρ S with
  | un => rw [e] at h; exact h
  | ex c T => rw [e] at h; exact h
  | ok ds T =>
    rw [e] at h
    intro Y1 H1 e1 g1 vs rv
    have hz := evalAll_len e
    have hv := rv.len
    refine ⟨Nat.le_of_lt (small1000 (by omega)), fun p hp => ?_⟩
    have hx : Ext Y1 H1 (Y1.add p) (upd H1 p (.lst vs)) := Ext.add hp
    have h' : Pst (kwX X U) U Y1 H1 (PD (kwX X U) Q) (.ok (D.loc T.length) (T ++ [.lst ds])) := Pst.mono (r := .ok (D.loc T.length) (T ++ [.lst ds])) h e1
    refine h' (Y1.add p) _ hx (g1.add hp ⟨vs, upd_same, rv.mono hx⟩) _ (Rep.loc ?_)
    show (Y1.loc ++ [p])[T.length]? = some p
    rw [← g1.len, List.getElem?_append_right (Nat.le_refl _)]
    simp
end
end WF

set_option Elab.async false
set_option linter.all false
set_option maxRecDepth 100000
set_option maxHeartbeats 4000000
/-! # Rules2: the operations on values keep what their denotations say -/
namespace WF
open PySem L2 PyProof.Rows
section
variable {K : KW} {Y : Lay} {S : Store} {H : Hp} {a : D} {x : V}
theorem lst_read {ds : List D} (g : Good K Y S H) (r : Rep K Y H a x) (h : res S a = .lst ds) : ∃ p xs, x = .ref p ∧ SqL K H p xs ∧ RepL K Y H ds xs := by
  cases r with
  | lst h1 h2 h3 => cases h; exact ⟨_, _, rfl, .inl h1, h3⟩
  | lsk h1 h3 => cases h; exact ⟨_, _, rfl, .inr h1, h3⟩
  | loc hl =>
    rename_i n p
    unfold res at h
    simp only at h
    split at h
    · rename_i es e
      cases h
      obtain ⟨xs, h1, h2⟩ := g.at' n _ p e hl
      exact ⟨p, xs, rfl, .inl (.inl h1), h2⟩
    · cases h
  | _ => cases h
theorem res_ne {S : Store} {d : D} (h : ∀ ds, res S d ≠ .lst ds) : res S d = d := by
  cases d with
  | loc n =>
    unfold res at h ⊢
    simp only at h ⊢
    split
    · rename_i ds e
      exact absurd (by rw [e]) (h ds)
    · rfl
  | _ => rfl
theorem tup_read {ds : List D} (r : Rep K Y H a x) (h : res S a = .tup ds) : ∃ p xs, x = .ref p ∧ SqT K H p xs ∧ RepL K Y H ds xs := by
  have e : res S a = a := res_ne fun es z => by rw [h] at z; cases z
  rw [e] at h
  subst h
  cases r with
  | tup h1 h2 => exact ⟨_, _, rfl, h1, h2⟩
theorem str_read {s : Cs} (r : Rep K Y H a x) (h : res S a = .str s) : x = .str (sv s) := by
  have e : res S a = a := res_ne fun es z => by rw [h] at z; cases z
  rw [e] at h
  subst h
  cases r with
  | str => rfl
end

/-! ### numbers, texts -/
section
variable {X : Cx} {U : Wh}
theorem ite_ok {α : Type} {c : Prop} [Decidable c] {K : KW} {Y : Lay} {H : Hp} {Φ : α → Store → Lay → Hp → Prop} {r : Res α} (h : Pst K U Y H Φ (if c then r else .un)) : c ∧ Pst K U Y H Φ r := by
  by_cases hc : c
  · rw [if_pos hc] at h; exact ⟨hc, h⟩
  · rw [if_neg hc] at h; exact h.elim
theorem add_listsG {M : Program} {w : World} {A : Around} {E : Value → Shared → Prop} {s : Shared} {l b : Addr} {vs ws : List Value} {Q : Value → Shared → Prop} (hl : s.heap.IsList l vs.toArray) (hb : s.heap.IsList b ws.toArray)
    (h : Q (.ref s.heap.objs.size) { s with heap := s.heap.push { cls := .type "list", data := .seq (vs ++ ws).toArray } }) (hsz : vs.length + ws.length ≤ sizeLine) : wpAny (model M w) A (binaryOp .Add (.ref l) (.ref b)) Q E s := by
  obtain ⟨⟨cls, dd, data, sl⟩, ho, hc, n, hd⟩ := id hl
  obtain ⟨⟨cls2, dd2, data2, sl2⟩, ho2, hc2, n2, hd2⟩ := id hb
  simp only at hc hd hc2 hd2
  subst hc hd hc2 hd2
  have e : vs.toArray ++ ws.toArray = (vs ++ ws).toArray := by simp
  refine concat_meets ⟨_, ho, rfl⟩ ⟨_, ho2, rfl⟩ noFill_list_add seq_list_add PySem.F.slot_list_add PySem.F.entry_list_add (PySem.F.args_list_add_2 _ _) (list_addW l b vs.toArray ws.toArray n n2 dd dd2 sl sl2 (by simpa using hsz)) ⟨ho, ho2, ?_⟩
  rw [e]
  exact h
def rCatL (K : KW) : R2 := fun x y H Q => ∃ l b xs zs, x = .ref l ∧ y = .ref b ∧ SqL K H l xs ∧ SqL K H b zs ∧ xs.length + zs.length ≤ sizeLine ∧ ∀ p, H p = none → Q (.ref p) (upd H p (.lst (xs ++ zs)))
theorem op_catL : OpR X (binaryOp .Add) (rCatL (kwX X U)) := by
  intro pins s σ H x y v u Q I rx ry h
  obtain ⟨l, b, xs, zs, rfl, rfl, hH, hB, hz, q⟩ := h
  cases rx
  cases ry
  obtain ⟨its, r, pl, z⟩ := I.list hH
  obtain ⟨its2, r2, pl2, z2⟩ := I.list hB
  have hl := r.length
  have hl2 := r2.length
  refine add_listsG pl.isList pl2.isList ?_ (by omega)
  exact ⟨.ref _, _, I.lnew (t' := s.toks) (r.append r2) (by rw [List.length_append]; omega), rfl, q _ I.fresh⟩
theorem o_add : OpF X U (binaryOp .Add) gAdd := by
  refine ⟨_, op_add.or (op_add_ib.or (op_add_str.or (op_catA.or (op_catL (U := U))))), fun Y S H a b x y Q g ra rb h => ?_⟩
  unfold gAdd at h
  split at h
  · cases ra; cases rb
    exact .inl ⟨_, _, rfl, rfl, h.val g (.int _)⟩
  · cases ra; cases rb
    exact .inr (.inl ⟨_, _, rfl, rfl, h.val g (.int _)⟩)
  · cases ra; cases rb
    obtain ⟨hc, h⟩ := ite_ok h
    refine .inr (.inr (.inl ⟨_, _, rfl, rfl, by rw [sv_len, sv_len, ← lim_eq]; exact hc, ?_⟩))
    rw [sv_app]
    exact h.val g (.str _)
  · cases ra with
    | tup s1 r1 =>
      cases rb with
      | tup s2 r2 =>
        obtain ⟨hc, h⟩ := ite_ok h
        have l1 := r1.len
        have l2 := r2.len
        refine .inr (.inr (.inr (.inl ⟨_, _, _, _, rfl, rfl, s1, s2, by rw [← lim_eq, ← l1, ← l2]; exact hc, fun e => ?_, fun _ e => ?_, fun _ _ p hp => ?_⟩)))
        · subst e
          cases r1
          exact h.val g (.tup s2 r2)
        · subst e
          cases r2
          rw [List.append_nil] at h
          exact h.val g (.tup s1 r1)
        · exact h.fresh g hp (Rep.newT hp (r1.append r2))
  · obtain ⟨hc, h⟩ := ite_ok h
    obtain ⟨p1, x1, rfl, s1, r1⟩ := lst_read (S := S) g ra rfl
    obtain ⟨p2, x2, rfl, s2, r2⟩ := lst_read (S := S) g rb rfl
    have l1 := r1.len
    have l2 := r2.len
    exact .inr (.inr (.inr (.inr ⟨_, _, _, _, rfl, rfl, s1, s2, by rw [← lim_eq, ← l1, ← l2]; exact hc, fun p hp => h.fresh g hp (Rep.newL g hp (r1.append r2))⟩)))
  · exact h.elim
theorem o_sub : OpF X U (binaryOp .Sub) gSub := by
  refine ⟨_, op_sub, fun Y S H a b x y Q g ra rb h => ?_⟩
  unfold gSub at h
  split at h
  · cases ra; cases rb
    exact ⟨_, _, rfl, rfl, h.val g (.int _)⟩
  · exact h.elim
theorem o_mul : OpF X U (binaryOp .Mult) gMul := by
  refine ⟨_, op_mul, fun Y S H a b x y Q g ra rb h => ?_⟩
  unfold gMul at h
  split at h
  · cases ra; cases rb
    obtain ⟨hc, h⟩ := ite_ok h
    refine ⟨_, _, rfl, rfl, ?_, h.val g (.int _)⟩
    unfold CMul
    unfold two64 at hc
    omega
  · exact h.elim
theorem o_fdiv : OpF X U (binaryOp .FloorDiv) gFdiv := by
  refine ⟨_, op_fdivN, fun Y S H a b x y Q g ra rb h => ?_⟩
  unfold gFdiv at h
  split at h
  · cases ra; cases rb
    obtain ⟨hc, h⟩ := ite_ok h
    exact ⟨_, _, rfl, rfl, hc, h.val g (.int _)⟩
  · exact h.elim
theorem o_mod : OpF X U (binaryOp .Mod) gMod := by
  refine ⟨_, op_modN, fun Y S H a b x y Q g ra rb h => ?_⟩
  unfold gMod at h
  split at h
  · cases ra; cases rb
    obtain ⟨hc, h⟩ := ite_ok h
    exact ⟨_, _, rfl, rfl, hc, h.val g (.int _)⟩
  · exact h.elim
theorem o_pow : OpF X U (binaryOp .Pow) gPow := by
  refine ⟨_, op_pow, fun Y S H a b x y Q g ra rb h => ?_⟩
  unfold gPow at h
  split at h
  · cases ra; cases rb
    obtain ⟨hc, h⟩ := ite_ok h
    exact ⟨_, _, rfl, rfl, ⟨hc.1, by omega, by simpa using hc.2.2⟩, h.val g (.int _)⟩
  · exact h.elim
theorem o_lt : OpF X U (compareOp .Lt) gLt := by
  refine ⟨_, op_lt, fun Y S H a b x y Q g ra rb h => ?_⟩
  unfold gLt at h
  split at h
  · cases ra; cases rb
    exact ⟨_, _, rfl, rfl, h.val g (.bl _)⟩
  · exact h.elim
theorem o_le : OpF X U (compareOp .LtE) gLe := by
  refine ⟨_, op_le, fun Y S H a b x y Q g ra rb h => ?_⟩
  unfold gLe at h
  split at h
  · cases ra; cases rb
    exact ⟨_, _, rfl, rfl, h.val g (.bl _)⟩
  · exact h.elim
theorem o_gt : OpF X U (compareOp .Gt) gGt := by
  refine ⟨_, op_gt, fun Y S H a b x y Q g ra rb h => ?_⟩
  unfold gGt at h
  split at h
  · cases ra; cases rb
    exact ⟨_, _, rfl, rfl, h.val g (.bl _)⟩
  · exact h.elim
theorem o_ge : OpF X U (compareOp .GtE) gGe := by
  refine ⟨_, op_ge, fun Y S H a b x y Q g ra rb h => ?_⟩
  unfold gGe at h
  split at h
  · cases ra; cases rb
    exact ⟨_, _, rfl, rfl, h.val g (.bl _)⟩
  · exact h.elim

/-! ### equality -/
mutual
def toPy : D → PyData
  | .non => .none
  | .bl b => .bool b
  | .int i => .int i
  | .str s => .str (sv s)
  | .tup ds => .tuple (toPys ds)
  | .lst ds => .list (toPys ds)
  | _ => .none
def toPys : List D → List PyData
  | [] => []
  | d :: ds => toPy d :: toPys ds
end
mutual
theorem toPy_plain : ∀ d : D, (toPy d).plain = true
  | .non => rfl
  | .bl _ => rfl
  | .int _ => rfl
  | .str _ => rfl
  | .tup ds => by unfold toPy PyData.plain; exact toPys_plain ds
  | .lst ds => by unfold toPy PyData.plain; exact toPys_plain ds
  | .loc _ => rfl
  | .fn _ _ => rfl
  | .exc _ => rfl
theorem toPys_plain : ∀ ds : List D, PyData.plainAll (toPys ds) = true
  | [] => rfl
  | d :: ds => by unfold toPys PyData.plainAll; rw [toPy_plain d, toPys_plain ds]; rfl
end
mutual
theorem toPy_depth : ∀ d : D, (toPy d).depth = d.depth
  | .non => rfl
  | .bl _ => rfl
  | .int _ => rfl
  | .str _ => rfl
  | .tup ds => by unfold toPy PyData.depth D.depth; rw [toPys_depth ds]
  | .lst ds => by unfold toPy PyData.depth D.depth; rw [toPys_depth ds]
  | .loc _ => rfl
  | .fn _ _ => rfl
  | .exc _ => rfl
theorem toPys_depth : ∀ ds : List D, PyData.depthAll (toPys ds) = D.depths ds
  | [] => rfl
  | d :: ds => by unfold toPys PyData.depthAll D.depths; rw [toPy_depth d, toPys_depth ds]
end
theorem sv_beq (s t : Cs) : (sv s == sv t) = (s == t) := by
  rw [Bool.eq_iff_iff]
  simp [sv_inj]
mutual
theorem toPy_eqv : ∀ a b : D, a.plain = true → b.plain = true → PyData.eqv (toPy a) (toPy b) = a.eqv b
  | .tup xs, .tup ys, ha, hb => by unfold toPy PyData.eqv D.eqv; exact toPys_eqv xs ys (by simpa [D.plain] using ha) (by simpa [D.plain] using hb)
  | .lst xs, .lst ys, ha, hb => by unfold toPy PyData.eqv D.eqv; exact toPys_eqv xs ys (by simpa [D.plain] using ha) (by simpa [D.plain] using hb)
  | .str x, .str y, _, _ => sv_beq x y
  | .non, .non, _, _ => rfl
  | .bl _, .bl _, _, _ => rfl
  | .bl _, .int _, _, _ => rfl
  | .int _, .bl _, _, _ => rfl
  | .int _, .int _, _, _ => rfl
  | .non, .bl _, _, _ => rfl
  | .non, .int _, _, _ => rfl
  | .non, .str _, _, _ => rfl
  | .non, .tup _, _, _ => rfl
  | .non, .lst _, _, _ => rfl
  | .bl _, .non, _, _ => rfl
  | .bl _, .str _, _, _ => rfl
  | .bl _, .tup _, _, _ => rfl
  | .bl _, .lst _, _, _ => rfl
  | .int _, .non, _, _ => rfl
  | .int _, .str _, _, _ => rfl
  | .int _, .tup _, _, _ => rfl
  | .int _, .lst _, _, _ => rfl
  | .str _, .non, _, _ => rfl
  | .str _, .bl _, _, _ => rfl
  | .str _, .int _, _, _ => rfl
  | .str _, .tup _, _, _ => rfl
  | .str _, .lst _, _, _ => rfl
  | .tup _, .non, _, _ => rfl
  | .tup _, .bl _, _, _ => rfl
  | .tup _, .int _, _, _ => rfl
  | .tup _, .str _, _, _ => rfl
  | .tup _, .lst _, _, _ => rfl
  | .lst _, .non, _, _ => rfl
  | .lst _, .bl _, _, _ => rfl
  | .lst _, .int _, _, _ => rfl
  | .lst _, .str _, _, _ => rfl
  | .lst _, .tup _, _, _ => rfl
theorem toPys_eqv : ∀ xs ys : List D, D.plains xs = true → D.plains ys = true → PyData.eqvAll (toPys xs) (toPys ys) = D.eqvs xs ys
  | [], [], _, _ => rfl
  | [], _ :: _, _, _ => rfl
  | _ :: _, [], _, _ => rfl
  | x :: xs, y :: ys, hx, hy => by
    have h1 : x.plain = true ∧ D.plains xs = true := by simpa [D.plains] using hx
    have h2 : y.plain = true ∧ D.plains ys = true := by simpa [D.plains] using hy
    unfold toPys PyData.eqvAll D.eqvs
    rw [toPy_eqv x y h1.1 h2.1, toPys_eqv xs ys h1.2 h2.2]
end
mutual
theorem Rep.dp {K : KW} {Y : Lay} {H : Hp} : ∀ {d : D} {v : V}, Rep K Y H d v → d.plain = true → Dp K H v (toPy d)
  | _, _, .non, _ => .non
  | _, _, .bl b, _ => .bl b
  | _, _, .int i, _ => .int i
  | _, _, .str s, _ => .str _
  | _, _, .tup h r, p => .tup h (RepL.dp r (by simpa [D.plain] using p))
  | _, _, .lst h _ r, p => .lst (.inl h) (RepL.dp r (by simpa [D.plain] using p))
  | _, _, .lsk h r, p => .lst (.inr h) (RepL.dp r (by simpa [D.plain] using p))
  | _, _, .loc _, p => by cases p
theorem RepL.dp {K : KW} {Y : Lay} {H : Hp} : ∀ {ds : List D} {vs : List V}, RepL K Y H ds vs → D.plains ds = true → DpAll K H vs (toPys ds)
  | _, _, .nil, _ => .nil
  | _, _, .cons r t, p => by
    unfold D.plains at p
    rw [Bool.and_eq_true] at p
    unfold toPys
    exact .cons (Rep.dp r p.1) (RepL.dp t p.2)
end
theorem res_dp {K : KW} {Y : Lay} {S : Store} {H : Hp} {a : D} {x : V} (g : Good K Y S H) (r : Rep K Y H a x) (h : (res S a).plain = true) : Dp K H x (toPy (res S a)) := by
  cases e : res S a with
  | lst ds =>
    obtain ⟨p, xs, rfl, h1, h2⟩ := lst_read g r e
    rw [e] at h
    exact .lst h1 (h2.dp (by simpa [D.plain] using h))
  | _ =>
    have e' : res S a = a := res_ne fun ds z => by rw [e] at z; cases z
    rw [← e, e']
    rw [e'] at h
    exact r.dp h
def rEqP (K : KW) : R2 := fun x y H Q => ∃ d e, Dp K H x d ∧ Dp K H y e ∧ d.plain = true ∧ e.plain = true ∧ min d.depth e.depth ≤ 60 ∧ Q (.bl (PyData.eqv d e)) H
def rNeP (K : KW) : R2 := fun x y H Q => ∃ d e, Dp K H x d ∧ Dp K H y e ∧ d.plain = true ∧ e.plain = true ∧ min d.depth e.depth ≤ 60 ∧ Q (.bl (!PyData.eqv d e)) H
theorem op_eqP (hu : X.A.units + 64 < cLine) : OpR X (compareOp .Eq) (rEqP (kwX X U)) := by
  intro pins s σ H x y v u Q I rx ry h
  obtain ⟨d, e, hd, he, sd, se, hz, q⟩ := h
  obtain ⟨as, r1⟩ := Dp.reads I d x v hd rx
  obtain ⟨bs, r2⟩ := Dp.reads I e y u he ry
  exact SeqAt.eq_plain r1 r2 sd se (by omega) ⟨.bl _, H, I, rfl, q⟩
theorem op_neP (hu : X.A.units + 64 < cLine) : OpR X (compareOp .NotEq) (rNeP (kwX X U)) := by
  intro pins s σ H x y v u Q I rx ry h
  obtain ⟨d, e, hd, he, sd, se, hz, q⟩ := h
  obtain ⟨as, r1⟩ := Dp.reads I d x v hd rx
  obtain ⟨bs, r2⟩ := Dp.reads I e y u he ry
  exact SeqAt.ne_plain r1 r2 sd se (by omega) ⟨.bl _, H, I, rfl, q⟩
theorem o_eq (hu : X.A.units + 64 < cLine) : OpF X U (compareOp .Eq) gEq := by
  refine ⟨_, op_eqP (U := U) hu, fun Y S H a b x y Q g ra rb h => ?_⟩
  unfold gEq at h
  obtain ⟨hc, h⟩ := ite_ok h
  simp only [Bool.and_eq_true, decide_eq_true_eq] at hc
  obtain ⟨⟨h1, h2⟩, h3⟩ := hc
  refine ⟨_, _, res_dp g ra h1, res_dp g rb h2, toPy_plain _, toPy_plain _, by rw [toPy_depth, toPy_depth]; exact h3, ?_⟩
  rw [toPy_eqv _ _ h1 h2]
  exact h.val g (.bl _)
theorem o_ne (hu : X.A.units + 64 < cLine) : OpF X U (compareOp .NotEq) gNe := by
  refine ⟨_, op_neP (U := U) hu, fun Y S H a b x y Q g ra rb h => ?_⟩
  unfold gNe gEq at h
  by_cases hc : ((res S a).plain && (res S b).plain && decide (min (res S a).depth (res S b).depth ≤ 60)) = true
  · simp only [hc, if_true, Res.ok_bind] at h
    simp only [Bool.and_eq_true, decide_eq_true_eq] at hc
    obtain ⟨⟨h1, h2⟩, h3⟩ := hc
    refine ⟨_, _, res_dp g ra h1, res_dp g rb h2, toPy_plain _, toPy_plain _, by rw [toPy_depth, toPy_depth]; exact h3, ?_⟩
    rw [toPy_eqv _ _ h1 h2]
    exact h.val g (.bl _)
  · simp only [hc] at h
    exact h.elim

/-! ### in, not in -/
theorem subIn_iff (v : Cs) : ∀ t : Cs, subIn v t = true ↔ ∃ i, i + v.length ≤ t.length ∧ (t.drop i).take v.length = v
  | [] => by
    unfold subIn
    constructor
    · intro h
      have : v = [] := by simpa using h
      subst this
      exact ⟨0, by simp, by simp⟩
    · rintro ⟨i, h1, h2⟩
      have : v = [] := by
        have : v.length = 0 := by
          have : ([] : Cs).length = 0 := rfl
          omega
        exact List.length_eq_zero_iff.mp this
      simp [this]
  | c :: t => by
    unfold subIn
    rw [Bool.or_eq_true, subIn_iff v t]
    constructor
    · rintro (h | ⟨i, h1, h2⟩)
      · obtain ⟨r, hr⟩ := List.isPrefixOf_iff_prefix.mp h
        exact ⟨0, by rw [← hr]; simp, by rw [← hr]; simp⟩
      · exact ⟨i + 1, by simp at h1 ⊢; omega, by simpa using h2⟩
    · rintro ⟨i, h1, h2⟩
      cases i with
      | zero =>
        left
        rw [List.isPrefixOf_iff_prefix]
        exact ⟨(c :: t).drop v.length, by
          have := List.take_append_drop v.length (c :: t)
          simp only [List.drop_zero] at h2
          rw [h2] at this
          exact this⟩
      | succ i => exact .inr ⟨i, by simp at h1 ⊢; omega, by simpa using h2⟩
theorem occ_in (v t : Cs) : (!(Builtin.Str.occurrences (sv t) (sv v) 0 (sv t).length 1).isEmpty) = subIn v t := by
  rw [Bool.eq_iff_iff, StrLaws.found_iff, subIn_iff]
  constructor
  · rintro ⟨i, h1, h2⟩
    rw [sv_len, sv_len] at h1
    rw [StrLaws.subAt_eq] at h2
    refine ⟨i, h1, ?_⟩
    simpa [sv_len] using h2
  · rintro ⟨i, h1, h2⟩
    refine ⟨i, by rw [sv_len, sv_len]; exact h1, ?_⟩
    rw [StrLaws.subAt_eq]
    simpa [sv_len] using h2
theorem toPys_any (x : D) (hx : x.plain = true) : ∀ ds : List D, D.plains ds = true → ((toPys ds).any fun z => PyData.eqv z (toPy x)) = ds.any fun y => y.eqv x
  | [], _ => rfl
  | d :: ds, h => by
    have h1 : d.plain = true ∧ D.plains ds = true := by simpa [D.plains] using h
    unfold toPys
    rw [List.any_cons, List.any_cons, toPy_eqv d x h1.1 hx, toPys_any x hx ds h1.2]
def rInP (K : KW) (neg : Bool) : R2 := fun x y H Q => ∃ d ds, Dp K H x d ∧ (Dp K H y (.list ds) ∨ Dp K H y (.tuple ds)) ∧ d.plain = true ∧ PyData.plainAll ds = true ∧ d.depth ≤ 60 ∧
  Q (.bl (if neg then !ds.any fun z => PyData.eqv z d else ds.any fun z => PyData.eqv z d)) H
theorem op_inP (hu : X.A.units + 64 < cLine) : OpR X (compareOp .In) (rInP (kwX X U) false) := by
  intro pins s σ H x y v u Q I rx ry h
  obtain ⟨d, ds, hd, he, sd, se, hz, q⟩ := h
  obtain ⟨as, r1⟩ := Dp.reads I d x v hd rx
  rcases he with he | he
  · obtain ⟨bs, r2⟩ := Dp.reads I _ y u he ry
    exact SeqAt.in_list_data r2 r1 se sd (by omega) ⟨.bl _, H, I, rfl, q⟩
  · obtain ⟨bs, r2⟩ := Dp.reads I _ y u he ry
    exact SeqAt.in_tuple_data r2 r1 se sd (by omega) ⟨.bl _, H, I, rfl, q⟩
theorem op_notInP (hu : X.A.units + 64 < cLine) : OpR X (compareOp .NotIn) (rInP (kwX X U) true) := by
  intro pins s σ H x y v u Q I rx ry h
  obtain ⟨d, ds, hd, he, sd, se, hz, q⟩ := h
  obtain ⟨as, r1⟩ := Dp.reads I d x v hd rx
  rcases he with he | he
  · obtain ⟨bs, r2⟩ := Dp.reads I _ y u he ry
    exact SeqAt.notIn_list_data r2 r1 se sd (by omega) ⟨.bl _, H, I, rfl, q⟩
  · obtain ⟨bs, r2⟩ := Dp.reads I _ y u he ry
    exact SeqAt.notIn_tuple_data r2 r1 se sd (by omega) ⟨.bl _, H, I, rfl, q⟩
/-- what gIn gives -/
theorem gIn_cases {K : KW} {Y : Lay} {S : Store} {H : Hp} {a b : D} {x y : V} (g : Good K Y S H) (ra : Rep K Y H a x) (rb : Rep K Y H b y) :
    (gIn a b S = .un) ∨ (∃ v t, x = .str (sv v) ∧ y = .str (sv t) ∧ gIn a b S = .ok (.bl (subIn v t)) S) ∨
      ∃ d ds, Dp K H x (toPy d) ∧ d.plain = true ∧ (Dp K H y (.list (toPys ds)) ∨ Dp K H y (.tuple (toPys ds))) ∧ D.plains ds = true ∧ d.depth ≤ 60 ∧ gIn a b S = .ok (.bl (ds.any fun z => z.eqv d)) S := by
  unfold gIn
  simp only
  split
  · rename_i v t e1 e2
    exact .inr (.inl ⟨v, t, str_read ra e1, str_read rb e2, rfl⟩)
  · rename_i ds e2
    by_cases hc : ((res S a).plain && D.plains ds && decide ((res S a).depth ≤ 60)) = true
    · rw [if_pos hc]
      simp only [Bool.and_eq_true, decide_eq_true_eq] at hc
      obtain ⟨p, xs, rfl, h1, h2⟩ := tup_read rb e2
      exact .inr (.inr ⟨_, ds, res_dp g ra hc.1.1, hc.1.1, .inr (.tup h1 (h2.dp hc.1.2)), hc.1.2, hc.2, rfl⟩)
    · rw [if_neg hc]; exact .inl rfl
  · rename_i ds e2
    by_cases hc : ((res S a).plain && D.plains ds && decide ((res S a).depth ≤ 60)) = true
    · rw [if_pos hc]
      simp only [Bool.and_eq_true, decide_eq_true_eq] at hc
      obtain ⟨p, xs, rfl, h1, h2⟩ := lst_read g rb e2
      exact .inr (.inr ⟨_, ds, res_dp g ra hc.1.1, hc.1.1, .inl (.lst h1 (h2.dp hc.1.2)), hc.1.2, hc.2, rfl⟩)
    · rw [if_neg hc]; exact .inl rfl
  · exact .inl rfl
theorem o_in (hu : X.A.units + 64 < cLine) : OpF X U (compareOp .In) gIn := by
  refine ⟨_, op_in_str.or (op_inP (U := U) hu), fun Y S H a b x y Q g ra rb h => ?_⟩
  rcases gIn_cases g ra rb with e | ⟨v, t, rfl, rfl, e⟩ | ⟨d, ds, h1, h2, h3, h4, h5, e⟩
  · rw [e] at h; exact h.elim
  · rw [e] at h
    refine .inl ⟨_, _, rfl, rfl, ?_⟩
    rw [occ_in]
    exact h.val g (.bl _)
  · rw [e] at h
    refine .inr ⟨_, _, h1, h3, toPy_plain _, toPys_plain _, by rw [toPy_depth]; exact h5, ?_⟩
    rw [toPys_any d h2 ds h4]
    exact h.val g (.bl _)
theorem o_notIn (hu : X.A.units + 64 < cLine) : OpF X U (compareOp .NotIn) gNotIn := by
  refine ⟨_, op_notin_str.or (op_notInP (U := U) hu), fun Y S H a b x y Q g ra rb h => ?_⟩
  unfold gNotIn at h
  rcases gIn_cases g ra rb with e | ⟨v, t, rfl, rfl, e⟩ | ⟨d, ds, h1, h2, h3, h4, h5, e⟩
  · rw [e] at h; exact h.elim
  · rw [e] at h
    refine .inl ⟨_, _, rfl, rfl, ?_⟩
    rw [occ_in]
    exact h.val g (.bl _)
  · rw [e] at h
    refine .inr ⟨_, _, h1, h3, toPy_plain _, toPys_plain _, by rw [toPy_depth]; exact h5, ?_⟩
    rw [toPys_any d h2 ds h4]
    exact h.val g (.bl _)
end
end WF

set_option Elab.async false
set_option linter.all false
set_option maxRecDepth 100000
set_option maxHeartbeats 4000000
/-! # Rules3: subscripts, slices, built-in functions, methods of texts -/
namespace WF
open PySem L2 PyProof.Rows
section
variable {X : Cx} {U : Wh} {a b e : Expr} {Fa Fb Fc : FE} {pos : Pos}

/-! ### subscripts -/
theorem RepL.at' {K : KW} {Y : Lay} {H : Hp} {ds : List D} {vs : List V} {i : Int} {d : D} (r : RepL K Y H ds vs) (h : WF.atI ds i = some d) : ∃ v, L2.atI vs i = some v ∧ Rep K Y H d v := by
  unfold WF.atI at h
  cases e : WF.ixN ds.length i with
  | none => rw [e] at h; cases h
  | some j =>
    rw [e] at h
    obtain ⟨v, h1, h2⟩ := r.get (i := j) (d := d) h
    refine ⟨v, ?_, h2⟩
    unfold L2.atI
    have e' : L2.ixN vs.length i = some j := by rw [← r.len]; exact e
    rw [e']
    exact h1
theorem pf_ix (ha : PeF X U a Fa) (hb : PeF X U b Fb) (hs : PlainIx b := by exact fun _ _ => rfl) : PeF X U (.Subscript a b pos) (dBin gIdx Fa Fb) := by
  obtain ⟨ta, p1, q1⟩ := ha
  obtain ⟨tb, p2, q2⟩ := hb
  refine ⟨_, pe_ix ix_seq p1 p2 hs, DE.op q1 q2 fun Y S H a b x y Q g ra rb h => ?_⟩
  unfold gIdx at h
  split at h
  · rename_i ds i e
    cases rb
    split at h
    · rename_i d hd
      obtain ⟨p, xs, rfl, h1, h2⟩ := tup_read ra e
      obtain ⟨v, h3, h4⟩ := h2.at' hd
      exact .inr (.inl ⟨p, xs, i, v, rfl, rfl, h1, h3, h.val g h4⟩)
    · exact h.elim
  · rename_i ds i e
    cases rb
    split at h
    · rename_i d hd
      obtain ⟨p, xs, rfl, h1, h2⟩ := lst_read g ra e
      obtain ⟨v, h3, h4⟩ := h2.at' hd
      exact .inl ⟨p, xs, i, v, rfl, rfl, h1, h3, h.val g h4⟩
    · exact h.elim
  · rename_i s i e
    cases rb
    have e' := str_read ra e
    subst e'
    obtain ⟨hl, h⟩ := ite_ok h
    split at h
    · rename_i c hc
      refine .inr (.inr ⟨_, i, c, rfl, rfl, by rw [sv_len, ← lim_eq]; exact hl, hc, h.val g (.str [c])⟩)
    · exact h.elim
  · exact h.elim

/-! ### slices -/
def DO (K : KW) (U : Wh) (to : TO) (F : Env → M (Option Int)) : Prop :=
  ∀ Y S H σ ρ Q, Good K Y S H → RepS K Y H ρ σ → Pst K U Y H (fun o _ _ H' => Q o H') (F ρ S) → to σ H Q
structure PoF (X : Cx) (U : Wh) (e : Option Expr) (F : Env → M (Option Int)) : Prop where
  ex : ∃ to, PO X e to ∧ DO (kwX X U) U to F
theorem pof_none : PoF X U none dNoPart := ⟨_, po_none, fun Y S H σ ρ Q g rs h => h.now g⟩
theorem pof_some (ha : PeF X U a Fa) : PoF X U (some a) (dPart Fa) := by
  obtain ⟨ta, p, q⟩ := ha
  refine ⟨_, po_some p, fun Y S H σ ρ Q g rs h => q Y S H σ ρ _ g rs ((Pst.bind h).imp fun d S1 Y1 H1 e1 g1 h1 x rx => ?_)⟩
  cases rx with
  | int i => exact ⟨i, rfl, h1.now g1⟩
  | _ => exact h1.elim
theorem cut_rep {K : KW} {Y : Lay} {H : Hp} {ds : List D} {vs : List V} (r : RepL K Y H ds vs) (lo hi : Option Int) : RepL K Y H (cut ds lo hi) (cutV vs lo hi) := by
  unfold cut cutV
  have e : ∀ (n d : Nat) (o : Option Int), WF.sIx n d o = HT.sIx n d o := fun n d o => by cases o <;> rfl
  rw [e, e, r.len]
  exact (r.drop _).take _
theorem cut_whole {K : KW} {Y : Lay} {H : Hp} {ds : List D} {vs : List V} (r : RepL K Y H ds vs) {lo hi : Option Int} (h : HT.sIx vs.length 0 lo = 0 ∧ HT.sIx vs.length vs.length hi = vs.length) : cut ds lo hi = ds := by
  unfold cut
  have e : ∀ (n d : Nat) (o : Option Int), WF.sIx n d o = HT.sIx n d o := fun n d o => by cases o <;> rfl
  rw [e, e, r.len, h.1, h.2, List.drop_zero, Nat.sub_zero, ← r.len, List.take_length]
variable {Lo Hi : Env → M (Option Int)} {lo hi : Option Expr} {p2 : Pos}
theorem pf_slice (ha : PeF X U a Fa) (hl : PoF X U lo Lo) (hh : PoF X U hi Hi) : PeF X U (.Subscript a (.Slice lo hi none p2) pos) (dSlice Fa Lo Hi) := by
  obtain ⟨ta, p1, q1⟩ := ha
  obtain ⟨tl, p3, q3⟩ := hl
  obtain ⟨th, p4, q4⟩ := hh
  refine ⟨_, pe_slice (sl_list.or (sl_tupA.or sl_str)) p1 p3 p4, fun Y S H σ ρ Q g rs h => q1 Y S H σ ρ _ g rs ((Pst.bind h).imp fun d S1 Y1 H1 e1 g1 h1 x rx =>
    q3 Y1 S1 H1 σ ρ _ g1 (rs.mono e1) ((Pst.bind h1).imp fun l S2 Y2 H2 e2 g2 h2 => q4 Y2 S2 H2 σ ρ _ g2 ((rs.mono e1).mono e2) ((Pst.bind h2).imp fun u S3 Y3 H3 e3 g3 h3 => ?_)))⟩
  have rx3 := rx.mono (e2.trans e3)
  unfold gSlice at h3
  split at h3
  · rename_i ds e
    obtain ⟨p, xs, rfl, k1, k2⟩ := tup_read rx3 e
    refine .inr (.inl ⟨p, xs, rfl, k1, fun w => ?_, fun _ p' hp => h3.fresh g3 hp (Rep.newT hp (cut_rep k2 l u))⟩)
    rw [cut_whole k2 w] at h3
    exact h3.val g3 (.tup k1 k2)
  · rename_i ds e
    obtain ⟨p, xs, rfl, k1, k2⟩ := lst_read g3 rx3 e
    exact .inl ⟨p, xs, rfl, k1, fun p' hp => h3.fresh g3 hp (Rep.newL g3 hp (cut_rep k2 l u))⟩
  · rename_i s e
    have e' := str_read rx3 e
    subst e'
    obtain ⟨hz, h3⟩ := ite_ok h3
    refine .inr (.inr ⟨_, rfl, by rw [sv_len, ← lim_eq]; exact hz, ?_⟩)
    have es : cutS (sv s) l u = sv (cut s l u) := by
      unfold cutS cut
      rw [sv_len]
      have e : ∀ (n d : Nat) (o : Option Int), WF.sIx n d o = HT.sIx n d o := fun n d o => by cases o <;> rfl
      rw [e, e]
    rw [es]
    exact h3.val g3 (.str _)
  · exact h3.elim

/-! ### built-in functions -/
def CallF (X : Cx) (U : Wh) (f : Value) (g : FF) : Prop :=
  ∃ r, CallR X f r ∧ ∀ Y S H ds xs Q, Good (kwX X U) Y S H → RepL (kwX X U) Y H ds xs → Pst (kwX X U) U Y H (PD (kwX X U) Q) (g ds S) → r xs H Q
theorem DE.cb {K : KW} {ta : TA} {Fs : List FE} {r : List V → Hp → VK → Prop} {g : FF} (ha : DA K U ta Fs)
    (hr : ∀ Y S H ds xs Q, Good K Y S H → RepL K Y H ds xs → Pst K U Y H (PD K Q) (g ds S) → r xs H Q) : DE K U (tCB r ta) (dCall g Fs) := fun Y S H σ ρ Q g0 rs h =>
  ha Y S H σ ρ _ g0 rs ((Pst.bind h).imp fun ds S1 Y1 H1 e1 g1 h1 vs rv => hr Y1 S1 H1 ds vs Q g1 rv h1)
variable {es : List Expr} {Fs : List FE} {g : FF}
theorem pf_callB {x : PySem.Str} {id : String} {p : Pos} (hc : CallF X U (.builtin id) g) (hm : X.mg x = none) (hv : bootBuiltins x = some (.builtin id)) (ha : PaF X U (e :: es) Fs) (hg : Gl X x := by rfl) (hn : x ≠ "__name__" := by decide) (hdb : (x == ("__debug__" : PySem.Str)) = false := by decide)
    (he : starEach (e :: es) X.env = (false, eval e X.env) :: starEach es X.env := by rfl) (hpl : (backTo pos (starEach es X.env)).any (·.1) = false := by rfl) : PeF X U (.Call (.Name x p) (e :: es) [] pos) (dCall g Fs) := by
  obtain ⟨ta, p1, q1⟩ := ha
  obtain ⟨r, hr, h⟩ := hc
  exact ⟨_, pe_callB hr hg hm hv p1 hn hdb he hpl, DE.cb q1 h⟩
theorem pf_callTy {x : PySem.Str} {T : String} {p : Pos} (hc : CallF X U (.type T) g) (hm : X.mg x = none) (hv : bootBuiltins x = some (.type T)) (ha : PaF X U (e :: es) Fs) (hg : Gl X x := by rfl) (hn : x ≠ "__name__" := by decide) (hdb : (x == ("__debug__" : PySem.Str)) = false := by decide)
    (he : starEach (e :: es) X.env = (false, eval e X.env) :: starEach es X.env := by rfl) (hpl : (backTo pos (starEach es X.env)).any (·.1) = false := by rfl) : PeF X U (.Call (.Name x p) (e :: es) [] pos) (dCall g Fs) := by
  obtain ⟨ta, p1, q1⟩ := ha
  obtain ⟨r, hr, h⟩ := hc
  exact ⟨_, pe_callTy hr hg hm hv p1 hn hdb he hpl, DE.cb q1 h⟩
theorem c_len : CallF X U (.builtin "len") (f1 bLen) := by
  refine ⟨_, call_len, fun Y S H ds xs Q g r h => ?_⟩
  unfold f1 at h
  split at h
  · cases r with
    | cons ra rn =>
      cases rn
      unfold bLen at h
      split at h
      · rename_i ds e
        obtain ⟨p, xs, rfl, k1, k2⟩ := tup_read ra e
        exact ⟨_, ds.length, rfl, .inr ⟨xs, k1, k2.len⟩, h.val g (.int _)⟩
      · rename_i ds e
        obtain ⟨p, xs, rfl, k1, k2⟩ := lst_read g ra e
        exact ⟨_, ds.length, rfl, .inl ⟨xs, k1, k2.len⟩, h.val g (.int _)⟩
      · rename_i s e
        have e' := str_read ra e
        subst e'
        obtain ⟨hz, h⟩ := ite_ok h
        exact ⟨_, s.length, rfl, ⟨by rw [sv_len, ← lim_eq]; exact hz, (sv_len s).symm⟩, h.val g (.int _)⟩
      · exact h.elim
  · exact h.elim
/-! isinstance -/
def tyName : Ty → String
  | .int => "int"
  | .bool => "bool"
  | .str => "str"
  | .tuple => "tuple"
def tyOfD : D → String
  | .non => "NoneType"
  | .bl _ => "bool"
  | .int _ => "int"
  | .str _ => "str"
  | .tup _ => "tuple"
  | _ => "list"
theorem kit_tab : ∀ (t : Ty) (d : D) (b : Bool), isTy t d = some b → kitB (tyOfD d) (tyName t) = some b := by
  have k : ∀ t : Ty, kitB "NoneType" (tyName t) = some false ∧ kitB "bool" (tyName t) = some (t == .int || t == .bool) ∧ kitB "int" (tyName t) = some (t == .int) ∧ kitB "str" (tyName t) = some (t == .str) ∧
      kitB "tuple" (tyName t) = some (t == .tuple) ∧ kitB "list" (tyName t) = some false := by
    intro t
    cases t <;> decide +kernel
  intro t d b h
  obtain ⟨k1, k2, k3, k4, k5, k6⟩ := k t
  cases d with
  | non => cases t <;> cases h <;> exact k1
  | bl _ => cases t <;> cases h <;> exact k2
  | int _ => cases t <;> cases h <;> exact k3
  | str _ => cases t <;> cases h <;> exact k4
  | tup _ => cases t <;> cases h <;> exact k5
  | lst _ => cases t <;> cases h <;> exact k6
  | _ => cases t <;> cases h
theorem tyX_of {K : KW} {Y : Lay} {S : Store} {H : Hp} {a : D} {x : V} {t : Ty} {k : Bool} (g : Good K Y S H) (r : Rep K Y H a x) (h : isTy t (res S a) = some k) : TyX K H x (.type (tyOfD (res S a))) := by
  have lst : ∀ {p : Addr} {xs : List V}, SqL K H p xs → TyX K H (.ref p) (.type "list") := fun {p xs} q => by
    rcases q with (q | ⟨o, q⟩) | ⟨o, its, n, q, c, _⟩
    · exact .base (.lst q)
    · exact .base (.frz q)
    · exact .kList q c
  cases r with
  | non => exact .base .non
  | bl b => exact .base (.bl b)
  | int i => exact .base (.int i)
  | str s => exact .base (.str _)
  | tup hs hr =>
    rcases hs with (q | ⟨o, q⟩) | ⟨o, its, n, q, c, _⟩
    · exact .base (.tup q)
    · exact .fTuple q
    · exact .kTuple q c
  | lst hs _ hr => exact lst (.inl hs)
  | lsk hs hr => exact lst (.inr hs)
  | loc hl =>
    rename_i n p
    cases e : res S (.loc n) with
    | lst ds =>
      obtain ⟨p', xs, e', h1, h2⟩ := lst_read g (Rep.loc hl) e
      cases e'
      exact lst h1
    | _ =>
      have e' : res S (.loc n) = .loc n := res_ne fun ds z => by rw [e] at z; cases z
      rw [e'] at h
      cases t <;> cases h
/-- isinstance(e, T) -/
theorem pf_isi (t : Ty) {T : PySem.Str} {p p2 : Pos} (ha : PeF X U a Fa) (hm : X.mg "isinstance" = none) (hmT : X.mg T = none) (hvT : bootBuiltins T = some (.type (tyName t))) (hg : Gl X "isinstance" := by rfl) (hgT : Gl X T := by rfl)
    (hn : T ≠ "__name__" := by decide) (hd : (T == ("__debug__" : PySem.Str)) = false := by decide)
    (h1 : starEach [.Name T p2] X.env = (false, eval (.Name T p2) X.env) :: starEach [] X.env := by rfl) (h2 : starEach [a, .Name T p2] X.env = (false, eval a X.env) :: starEach [.Name T p2] X.env := by rfl)
    (hpl : (backTo pos (starEach [.Name T p2] X.env)).any (·.1) = false := by rfl) :
    PeF X U (.Call (.Name "isinstance" p) [a, .Name T p2] [] pos) (dUn (bIsi t) Fa) := by
  obtain ⟨ta, p1, q1⟩ := ha
  refine ⟨_, pe_callB call_isi hg hm (by decide +kernel) (pa_cons p1 (pa_cons (pe_bltn (v := .ty (tyName t)) hgT hmT hvT rfl hn hd) pa_nil h1) h2) (by decide) (by decide) h2 hpl, fun Y S H σ ρ Q g rs h =>
    q1 Y S H σ ρ _ g rs ((Pst.bind h).imp fun d S1 Y1 H1 e1 g1 h1 x rx => ?_)⟩
  unfold bIsi at h1
  split at h1
  · rename_i k e
    exact ⟨x, .ty (tyName t), .type (tyOfD (res S1 d)), .type (tyName t), k, rfl, .ty _, tyX_of g1 rx e, kit_ty (kit_tab t _ k e), h1.val g1 (.bl _)⟩
  · exact h1.elim

/-! all, any, sum, max -/
theorem boolsOf_rep {K : KW} {Y : Lay} {H : Hp} : ∀ {ds : List D} {vs : List V} {bs : List Bool}, RepL K Y H ds vs → boolsOf ds = some bs → vs = bs.map V.bl
  | _, _, bs, .nil, h => by cases h; rfl
  | _, _, bs, .cons (d := d) (ds := ds) r t, h => by
    cases r with
    | bl b =>
      unfold boolsOf at h
      cases e : boolsOf ds with
      | none => rw [e] at h; cases h
      | some cs =>
        rw [e] at h
        cases h
        rw [boolsOf_rep t e]; rfl
    | _ => cases h
theorem intsOf_rep {K : KW} {Y : Lay} {H : Hp} : ∀ {ds : List D} {vs : List V} {bs : List Int}, RepL K Y H ds vs → intsOf ds = some bs → vs = bs.map V.int
  | _, _, bs, .nil, h => by cases h; rfl
  | _, _, bs, .cons (d := d) (ds := ds) r t, h => by
    cases r with
    | int b =>
      unfold intsOf at h
      cases e : intsOf ds with
      | none => rw [e] at h; cases h
      | some cs =>
        rw [e] at h
        cases h
        rw [intsOf_rep t e]; rfl
    | _ => cases h
theorem strsOf_rep {K : KW} {Y : Lay} {H : Hp} : ∀ {ds : List D} {vs : List V} {bs : List Cs}, RepL K Y H ds vs → strsOf ds = some bs → vs = (bs.map sv).map V.str
  | _, _, bs, .nil, h => by cases h; rfl
  | _, _, bs, .cons (d := d) (ds := ds) r t, h => by
    cases r with
    | str b =>
      unfold strsOf at h
      cases e : strsOf ds with
      | none => rw [e] at h; cases h
      | some cs =>
        rw [e] at h
        cases h
        rw [strsOf_rep t e]; rfl
    | _ => cases h
theorem lstOf_read {K : KW} {Y : Lay} {S : Store} {H : Hp} {a : D} {x : V} {ds : List D} (g : Good K Y S H) (r : Rep K Y H a x) (h : lstOf S a = some ds) : ∃ p xs, x = .ref p ∧ SqL K H p xs ∧ RepL K Y H ds xs := by
  unfold lstOf at h
  split at h
  · rename_i es e
    cases h
    exact lst_read g r e
  · cases h
theorem c_all (hc : X.calm = true) : CallF X U (.builtin "all") (f1 bAll) := by
  refine ⟨_, cr_all hc, fun Y S H ds xs Q g r h => ?_⟩
  unfold f1 at h
  split at h
  · cases r with
    | cons ra rn =>
      cases rn
      unfold bAll at h
      split at h
      · rename_i bs e
        obtain ⟨es, e1, e2⟩ := Option.bind_eq_some_iff.mp e
        obtain ⟨p, xs, rfl, k1, k2⟩ := lstOf_read g ra e1
        have e3 := boolsOf_rep k2 e2
        subst e3
        exact ⟨p, bs, rfl, k1, h.val g (.bl _)⟩
      · exact h.elim
  · exact h.elim
theorem c_any (hc : X.calm = true) : CallF X U (.builtin "any") (f1 bAny) := by
  refine ⟨_, cr_any hc, fun Y S H ds xs Q g r h => ?_⟩
  unfold f1 at h
  split at h
  · cases r with
    | cons ra rn =>
      cases rn
      unfold bAny at h
      split at h
      · rename_i bs e
        obtain ⟨es, e1, e2⟩ := Option.bind_eq_some_iff.mp e
        obtain ⟨p, xs, rfl, k1, k2⟩ := lstOf_read g ra e1
        have e3 := boolsOf_rep k2 e2
        subst e3
        exact ⟨p, bs, rfl, k1, h.val g (.bl _)⟩
      · exact h.elim
  · exact h.elim
theorem c_sum (hc : X.calm = true) : CallF X U (.builtin "sum") (f1 bSum) := by
  refine ⟨_, cr_sum hc, fun Y S H ds xs Q g r h => ?_⟩
  unfold f1 at h
  split at h
  · cases r with
    | cons ra rn =>
      cases rn
      unfold bSum at h
      split at h
      · rename_i bs e
        obtain ⟨es, e1, e2⟩ := Option.bind_eq_some_iff.mp e
        obtain ⟨p, xs, rfl, k1, k2⟩ := lstOf_read g ra e1
        have e3 := intsOf_rep k2 e2
        subst e3
        exact ⟨p, bs, rfl, k1, h.val g (.int _)⟩
      · exact h.elim
  · exact h.elim
theorem foldl_max (xs : List Int) : ∀ x : Int, (xs.foldl (fun a b => if a < b then b else a) x ∈ x :: xs) ∧ ∀ y ∈ x :: xs, y ≤ xs.foldl (fun a b => if a < b then b else a) x := by
  induction xs with
  | nil => intro x; simp
  | cons z zs ih =>
    intro x
    rw [List.foldl_cons]
    have hw : x ≤ (if x < z then z else x) ∧ z ≤ (if x < z then z else x) ∧ ((if x < z then z else x) = x ∨ (if x < z then z else x) = z) := by
      by_cases h : x < z
      · rw [if_pos h]; exact ⟨Int.le_of_lt h, Int.le_refl _, .inr rfl⟩
      · rw [if_neg h]; exact ⟨Int.le_refl _, by omega, .inl rfl⟩
    generalize (if x < z then z else x) = w at hw
    obtain ⟨h1, h2⟩ := ih w
    have hm := h2 w List.mem_cons_self
    constructor
    · rcases List.mem_cons.mp h1 with h | h
      · rw [h]
        rcases hw.2.2 with e | e <;> simp [e]
      · exact List.mem_cons_of_mem _ (List.mem_cons_of_mem _ h)
    · intro y hy
      rcases List.mem_cons.mp hy with rfl | hy
      · omega
      · rcases List.mem_cons.mp hy with rfl | hy
        · omega
        · exact h2 y (List.mem_cons_of_mem _ hy)
theorem maxL_spec {ns : List Int} {m : Int} (h : maxL ns = some m) : m ∈ ns ∧ ∀ y ∈ ns, y ≤ m := by
  cases ns with
  | nil => cases h
  | cons x xs => cases h; exact foldl_max xs x
theorem c_max (hc : X.calm = true) : CallF X U (.builtin "max") (f1 bMax) := by
  refine ⟨_, cr_max hc, fun Y S H ds xs Q g r h => ?_⟩
  unfold f1 at h
  split at h
  · cases r with
    | cons ra rn =>
      cases rn
      unfold bMax at h
      split at h
      · rename_i m e
        obtain ⟨bs, e0, em⟩ := Option.bind_eq_some_iff.mp e
        obtain ⟨es, e1, e2⟩ := Option.bind_eq_some_iff.mp e0
        obtain ⟨p, xs, rfl, k1, k2⟩ := lstOf_read g ra e1
        have e3 := intsOf_rep k2 e2
        subst e3
        obtain ⟨m1, m2⟩ := maxL_spec em
        refine ⟨p, bs, rfl, k1, List.length_pos_of_mem m1, fun m' h1 h2 => ?_⟩
        have : m' = m := Int.le_antisymm (m2 _ h1) (h2 _ m1)
        rw [this]
        exact h.val g (.int _)
      · exact h.elim
  · exact h.elim
theorem c_max2 (hc : X.calm = true) : CallF X U (.builtin "max") (f2 bMax2) := by
  refine ⟨_, call_max2 hc, fun Y S H ds xs Q g r h => ?_⟩
  unfold f2 at h
  split at h
  · cases r with
    | cons ra rn =>
      cases rn with
      | cons rb rn =>
        cases rn
        unfold bMax2 at h
        split at h
        · cases ra; cases rb
          exact ⟨_, _, rfl, h.val g (.int _)⟩
        · exact h.elim
  · exact h.elim
theorem c_min2 (hc : X.calm = true) : CallF X U (.builtin "min") (f2 bMin2) := by
  refine ⟨_, call_min2 hc, fun Y S H ds xs Q g r h => ?_⟩
  unfold f2 at h
  split at h
  · cases r with
    | cons ra rn =>
      cases rn with
      | cons rb rn =>
        cases rn
        unfold bMin2 at h
        split at h
        · cases ra; cases rb
          exact ⟨_, _, rfl, h.val g (.int _)⟩
        · exact h.elim
  · exact h.elim
theorem c_tuple : CallF X U (.type "tuple") (f1 bTuple) := by
  refine ⟨_, call_tuple_of, fun Y S H ds xs Q g r h => ?_⟩
  unfold f1 at h
  split at h
  · cases r with
    | cons ra rn =>
      cases rn
      unfold bTuple at h
      split at h
      · rename_i ds e
        obtain ⟨p, xs, rfl, k1, k2⟩ := lst_read g ra e
        exact ⟨p, xs, rfl, .inl ⟨k1, fun l hl => h.fresh g hl (Rep.newT hl k2)⟩⟩
      · rename_i ds e
        obtain ⟨p, xs, rfl, k1, k2⟩ := tup_read ra e
        exact ⟨p, xs, rfl, .inr ⟨k1, h.val g (.tup k1 k2)⟩⟩
      · exact h.elim
  · exact h.elim
theorem items_signs {x : PySem.Str} {acc : Array Value} (h : ItemsOf (SignAt x) acc x.cps.size) : Vals (x.cps.toList.map fun c => V.str ⟨#[c]⟩) acc.toList := by
  have h1 : acc.toList.length = x.cps.toList.length := by rw [Array.length_toList, Array.length_toList]; exact h.1
  have h2 : ∀ (i : Nat) (v : Value), acc.toList[i]? = some v → ∃ c u, x.cps.toList[i]? = some c ∧ v = .str ⟨#[c]⟩ u := fun i v hv => by
    obtain ⟨c, u, hc, e⟩ := h.2 i v (by rw [← Array.getElem?_toList]; exact hv)
    exact ⟨c, u, by rw [Array.getElem?_toList]; exact hc, e⟩
  revert h1 h2
  generalize acc.toList = vs
  generalize x.cps.toList = cs
  induction cs generalizing vs with
  | nil =>
    intro h1 _
    cases vs with
    | nil => exact .nil
    | cons _ _ => cases h1
  | cons c cs ih =>
    intro h1 h2
    cases vs with
    | nil => cases h1
    | cons v vs =>
      obtain ⟨c', u, e, hv⟩ := h2 0 v rfl
      cases e
      subst hv
      exact .cons ⟨u, rfl⟩ (ih vs (by simpa using h1) fun i v hv => by simpa using h2 (i + 1) v (by simpa using hv))
def rListT : List V → Hp → VK → Prop := fun xs H Q => ∃ x : PySem.Str, xs = [.str x] ∧ x.cps.size ≤ sizeLine ∧ ∀ l, H l = none → Q (.ref l) (upd H l (.lst (x.cps.toList.map fun c => V.str ⟨#[c]⟩)))
theorem call_list_txt (hc : X.calm = true) : CallR X (.type "list") rListT := by
  intro pins s σ H xs us Q I r h
  obtain ⟨x, rfl, hz, q⟩ := h
  obtain ⟨u, rfl, ru⟩ := r.one
  obtain ⟨t, rfl⟩ := ru
  refine call_list_str (hn := hz) (I.ok.hd hc) x t fun h' tk acc' c' hk ho ha => ?_
  have hv := items_signs ha
  have hl : (x.cps.toList.map fun c => V.str ⟨#[c]⟩).length ≤ sizeLine := by rw [List.length_map, Array.length_toList]; exact hz
  exact ⟨.ref s.heap.objs.size, _, I.laid (t' := tk) hk (Nat.le_refl _) (show ObjOk X.prog X.w _ h' _ (.lst _) from ⟨hl, acc'.toList, c', hv, ho⟩), rfl, q _ (I.hok.fresh (Nat.le_refl _))⟩
theorem repL_signs {K : KW} {Y : Lay} {H : Hp} : ∀ s : Cs, RepL K Y H (s.map fun c => D.str [c]) (s.map fun c => V.str ⟨#[c]⟩)
  | [] => .nil
  | c :: s => .cons (.str [c]) (repL_signs s)
theorem c_list (hcalm : X.calm = true) : CallF X U (.type "list") (f1 bList) := by
  refine ⟨_, call_list_of.or (call_list_txt hcalm), fun Y S H ds xs Q g r h => ?_⟩
  unfold f1 at h
  split at h
  · cases r with
    | cons ra rn =>
      cases rn
      unfold bList at h
      split at h
      · rename_i ds e
        obtain ⟨p, xs, rfl, k1, k2⟩ := lst_read g ra e
        exact .inl ⟨p, xs, rfl, .inl k1, fun l hl => h.fresh g hl (Rep.newL g hl k2)⟩
      · rename_i ds e
        obtain ⟨p, xs, rfl, k1, k2⟩ := tup_read ra e
        exact .inl ⟨p, xs, rfl, .inr k1, fun l hl => h.fresh g hl (Rep.newL g hl k2)⟩
      · rename_i s e
        have e' := str_read ra e
        subst e'
        obtain ⟨hz, h⟩ := ite_ok h
        refine .inr ⟨sv s, rfl, ?_, fun l hl => h.fresh g hl (Rep.newL g hl (by simpa using repL_signs s))⟩
        rw [lim_eq] at hz
        simpa using hz
      · exact h.elim
  · exact h.elim

/-! ### methods of texts -/
theorem joinCs_tl (s : Cs) : ∀ xs : List Cs, TL.joinL s xs = joinCs s xs
  | [] => rfl
  | [_] => rfl
  | x :: y :: r => by
    unfold TL.joinL joinCs
    rw [joinCs_tl s (y :: r)]
theorem join_sv (s : Cs) (xs : List Cs) : Txt.join (sv s) (xs.map sv) = sv (joinCs s xs) := by
  rw [TL.join_eq]
  refine TL.ext_tl ?_
  rw [TL.tl_join, List.map_map]
  have : (TL.tl ∘ sv) = id := by funext z; rfl
  rw [this, List.map_id]
  exact joinCs_tl s xs
/-- t.m(e), t a text: the method's rule -/
def MtF (X : Cx) (U : Wh) (id : String) (g : D → D → M D) : Prop :=
  ∃ r, MtR X id r ∧ ∀ Y S H s b y Q, Good (kwX X U) Y S H → Rep (kwX X U) Y H b y → Pst (kwX X U) U Y H (PD (kwX X U) Q) (g (.str s) b S) → r (.str (sv s)) [y] H Q
theorem pf_strM {id : String} {name : PySem.Str} {apos : Pos} {g : D → D → M D} (slot : Slot "str" name id) (ty : typeOf (.builtin id) = pure (.type "method_descriptor")) (hm : MtF X U id g) (ha : PeF X U a Fa) (hb : PeF X U b Fb)
    (hs : starEach [b] X.env = [(false, eval b X.env)] := by rfl) (hbase : attributeBase a name X.env (eval a X.env) = eval a X.env := by rfl) (hline : (apos.endLine == pos.line) = true := by rfl) :
    PeF X U (.Call (.Attribute a name apos) [b] [] pos) (dStrM g Fa Fb) := by
  obtain ⟨ta, p1, q1⟩ := ha
  obtain ⟨tb, p2, q2⟩ := hb
  obtain ⟨r, hr, hq⟩ := hm
  refine ⟨_, pe_m1 slot ty hr p1 p2 hs hbase hline, fun Y S H σ ρ Q g0 rs h => q1 Y S H σ ρ _ g0 rs ((Pst.bind h).imp fun d1 S1 Y1 H1 e1 g1 h1 x rx => ?_)⟩
  cases rx with
  | str s => exact ⟨⟨_, rfl⟩, q2 Y1 S1 H1 σ ρ _ g1 (rs.mono e1) ((Pst.bind h1).imp fun d2 S2 Y2 H2 e2 g2 h2 y ry => hq Y2 S2 H2 s d2 y Q g2 ry h2)⟩
  | _ => exact h1.elim
theorem m_join : MtF X U "str.join" bJoin := by
  refine ⟨_, mt_join, fun Y S H s b y Q g ry h => ?_⟩
  unfold bJoin at h
  split at h
  · rename_i s' zs es ez
    cases es
    obtain ⟨ds, k1, k2⟩ := Option.bind_eq_some_iff.mp ez
    have hm : ∃ p xs, y = .ref p ∧ (SqL X.K H p xs ∨ SqT X.K H p xs) ∧ RepL (kwX X U) Y H ds xs := by
      unfold seqOf at k1
      split at k1
      · rename_i es e
        cases k1
        obtain ⟨p, xs, e1, e2, e3⟩ := lst_read g ry e
        exact ⟨p, xs, e1, .inl e2, e3⟩
      · rename_i es e
        cases k1
        obtain ⟨p, xs, e1, e2, e3⟩ := tup_read ry e
        exact ⟨p, xs, e1, .inr e2, e3⟩
      · cases k1
    obtain ⟨p, xs, rfl, m1, m2⟩ := hm
    have m3 := strsOf_rep m2 k2
    subst m3
    obtain ⟨hc, h⟩ := ite_ok h
    refine ⟨_, p, zs.map sv, rfl, rfl, m1, ?_, ?_⟩
    · have : (zs.map sv).map (fun (z : PySem.Str) => z.length) = zs.map List.length := by
        rw [List.map_map]
        exact List.map_congr_left fun z _ => sv_len z
      rw [this, List.length_map, sv_len, Nat.mul_comm]
      exact hc.2
    · rw [join_sv]
      exact h.val g (.str _)
  · exact h.elim
theorem cnt_eq (c : Nat) : ∀ t : List Nat, PyProof.Rows.cnt c t = (t.count c : Nat)
  | [] => rfl
  | n :: r => by
    rw [PyProof.Rows.cnt_cons, cnt_eq c r, List.count_cons]
    by_cases h : n = c
    · subst h; simp; omega
    · have h' : ¬ (n == c) = true := by simpa using h
      rw [if_neg h, if_neg h']
      simp
theorem m_count : MtF X U "str.count" bCount := by
  refine ⟨_, mt_count, fun Y S H s b y Q g ry h => ?_⟩
  unfold bCount at h
  split at h
  · rename_i t c e
    cases e
    cases ry
    refine ⟨_, _, rfl, rfl, ?_⟩
    have : Txt.count (sv s) (sv [c]) = (s.count c : Nat) := by
      have e := PyProof.Rows.count_cnt (sv s) c
      rw [cnt_eq] at e
      exact e
    rw [this]
    exact h.val g (.int _)
  · exact h.elim
end
end WF

set_option Elab.async false
set_option linter.all false
set_option maxRecDepth 100000
set_option maxHeartbeats 4000000
/-! # Rules4: targets, what is walked, comprehensions, statements -/
namespace WF
open PySem L2 PyProof.Rows
section
variable {X : Cx} {U : Wh} {a b e : Expr} {Fa Fb : FE} {pos : Pos}

/-! ### targets -/
theorem pg_nm (i : Nat) {x : PySem.Str} (hN : X.N.Nodup) (hi : X.N[i]? = some x := by rfl) (hx : Loc X.env.scope x := by first | exact Or.inl rfl | exact Or.inr rfl)
    (hf : X.fn x = true ∨ X.env.scope.names.lookup x = some .local := by first | exact .inl rfl | exact .inr rfl | assumption) : PgF X U (.Name x pos) [i] (gName i) := by
  refine ⟨_, pg_name hN hi hx hf, fun Y S H σ ρ d v Q g rs r h => ?_⟩
  exact h.now g _ (rs.set r i) (fun j hj => List.getElem?_set_ne (fun z => hj (by simp [z]))) (by simp)
def DGs (K : KW) (U : Wh) (ws : List Nat) (tg : TGs) (F : List FG) : Prop :=
  ∀ Y S H σ ρ ds vs Q, Good K Y S H → RepS K Y H ρ σ → RepL K Y H ds vs →
    Pst K U Y H (fun ρ' _ Y' H' => ∀ σ', RepS K Y' H' ρ' σ' → (∀ i, i ∉ ws → σ'[i]? = σ[i]?) → σ'.length = σ.length → Q σ' H') (gAll F ds ρ S) → tg vs σ H Q
structure PgsF (X : Cx) (U : Wh) (ts : List Expr) (ws : List Nat) (F : List FG) : Prop where
  ex : ∃ tg, PGs X ts tg ∧ DGs (kwX X U) U ws tg F
theorem pgsf_nil : PgsF X U [] [] [] := by
  refine ⟨_, pgs_nil, fun Y S H σ ρ ds vs Q g rs r h => ?_⟩
  cases r with
  | nil => exact ⟨rfl, h.now g _ rs (fun _ _ => rfl) rfl⟩
  | cons _ _ => exact h.elim
theorem pgsf_cons {t : Expr} {ts : List Expr} {ws ws' : List Nat} {G : FG} {Gs : List FG} (h1 : PgF X U t ws G) (h2 : PgsF X U ts ws' Gs)
    (hs : (assignEach (t :: ts) X.env).map (·.2) = assign t X.env :: (assignEach ts X.env).map (·.2) := by rfl) : PgsF X U (t :: ts) (ws ++ ws') (G :: Gs) := by
  obtain ⟨tg, p1, q1⟩ := h1
  obtain ⟨tgs, p2, q2⟩ := h2
  refine ⟨_, pgs_cons p1 p2 hs, fun Y S H σ ρ ds vs Q g rs r h => ?_⟩
  cases r with
  | nil => exact h.elim
  | cons r1 rr =>
    refine ⟨_, _, rfl, q1 Y S H σ ρ _ _ _ g rs r1 ((Pst.bind h).imp fun ρ1 S1 Y1 H1 e1 g1 h1 σ1 rs1 k1 l1 => q2 Y1 S1 H1 σ1 ρ1 _ _ _ g1 rs1 (rr.mono e1) (h1.imp fun ρ2 S2 Y2 H2 e2 g2 h2 σ2 rs2 k2 l2 => ?_))⟩
    exact h2 σ2 rs2 (fun i hi => (k2 i fun z => hi (List.mem_append_right _ z)).trans (k1 i fun z => hi (List.mem_append_left _ z))) (l2.trans l1)
theorem PG.or {t : Expr} {g1 g2 : TG} (h1 : PG X t g1) (h2 : PG X t g2) : PG X t (fun v σ H Q => g1 v σ H Q ∨ g2 v σ H Q) :=
  ⟨fun pins s σ H v u Q I r h => h.elim (h1.run pins s σ H v u Q I r) (h2.run pins s σ H v u Q I r)⟩
theorem res_tup {S : Store} {d : D} {ds : List D} (e : res S d = .tup ds) : d = .tup ds := by
  unfold res at e
  split at e
  · split at e <;> cases e
  · exact e
theorem pg_tp {ts : List Expr} {k n : Nat} {ws : List Nat} {Gs : List FG} (hc : X.calm = true) (h : PgsF X U ts ws Gs) (hl : Gs.length = n := by rfl)
    (hn : (assignEach ts X.env).length = n := by rfl) (hst : (assignEach ts X.env).findIdx? (·.1) = none := by rfl) : PgF X U (.Tuple ts k pos) ws (gTup Gs) := by
  obtain ⟨tg, p, q⟩ := h
  refine ⟨_, PG.or (L2.pg_tup hc p hn hst) (L2.pg_lst hc p hn hst), fun Y S H σ ρ d v Q g rs r h => ?_⟩
  unfold gTup at h
  split at h
  · rename_i ds e
    obtain ⟨hz, h⟩ := ite_ok h
    have e' := res_tup e
    subst e'
    cases r with
    | tup hs hr => exact .inl ⟨_, _, rfl, hs, by rw [← hr.len, hz]; exact hl, q Y S H σ ρ ds _ Q g rs hr h⟩
  · rename_i ds e
    obtain ⟨hz, h⟩ := ite_ok h
    obtain ⟨a, xs, rfl, hs, hr⟩ := lst_read g r e
    exact .inr ⟨a, xs, rfl, hs, by rw [← hr.len, hz]; exact hl, q Y S H σ ρ ds _ Q g rs hr h⟩
  · exact h.elim

/-! ### what is walked -/
/-- the items as they stand in the store -/
def items (S : Store) (ds : List D) : Option Live → Option (List D)
  | none => some ds
  | some n => match n S with
    | some es => if es.length = ds.length then some es else none
    | none => none
theorem items_len {S : Store} {ds es : List D} {w : Option Live} (h : items S ds w = some es) : es.length = ds.length := by
  cases w with
  | none => cases h; rfl
  | some n =>
    unfold items at h
    simp only at h
    split at h
    · split at h
      · cases h; assumption
      · cases h
    · cases h
structure Walk (K : KW) (J : It) (ds : List D) (w : Option Live) (Y : Lay) (H : Hp) : Prop where
  stop : ∀ Y2 S2 H2 es, Ext Y H Y2 H2 → Good K Y2 S2 H2 → items S2 ds w = some es → J.stop es.length H2
  go : ∀ i Y2 S2 H2 es, Ext Y H Y2 H2 → Good K Y2 S2 H2 → items S2 ds w = some es → i < es.length → J.go i H2
  yld : ∀ i Y2 S2 H2 es x H3, Ext Y H Y2 H2 → Good K Y2 S2 H2 → items S2 ds w = some es → i < es.length → J.yld i H2 x H3 → ∃ d, es[i]? = some d ∧ Ext Y2 H2 Y2 H3 ∧ Good K Y2 S2 H3 ∧ (∀ a o, H2 a = some o → H3 a = some o) ∧ Rep K Y2 H3 d x
def DI (K : KW) (U : Wh) (wi : TI) (F : FI) : Prop :=
  ∀ Y S H σ ρ R, Good K Y S H → RepS K Y H ρ σ → Pst K U Y H (fun p _ Y' H' => ∀ J, Walk K J p.1 p.2 Y' H' → R J H') (F ρ S) → wi σ H R
structure PiF (X : Cx) (U : Wh) (tg iter : Expr) (F : FI) : Prop where
  ex : ∃ wi, PI X tg iter wi ∧ DI (kwX X U) U wi F
theorem PI.or {tg : Expr} {w1 w2 : TI} (h1 : PI X tg e w1) (h2 : PI X tg e w2) : PI X tg e (fun σ H R => w1 σ H R ∨ w2 σ H R) :=
  ⟨fun pins s σ H R I h => h.elim (h1.run pins s σ H R I) (h2.run pins s σ H R I)⟩
theorem walk_lst {K : KW} {Y : Lay} {H : Hp} {p : Addr} {xs : List V} {ds : List D} (hr : Rep K Y H (.lst ds) (.ref p)) : Walk K (Itl K p) ds none Y H := by
  have ex : ∀ {Y2 : Lay} {H2 : Hp}, Ext Y H Y2 H2 → ∃ xs, SqL K H2 p xs ∧ RepL K Y2 H2 ds xs := fun {Y2 H2} e2 => by
    cases hr.mono e2 with
    | lst h _ r => exact ⟨_, .inl h, r⟩
    | lsk h r => exact ⟨_, .inr h, r⟩
  refine ⟨fun Y2 S2 H2 es e2 g2 h => ?_, fun i Y2 S2 H2 es e2 g2 h hi => ?_, fun i Y2 S2 H2 es x H3 e2 g2 h hi hy => ?_⟩
  · cases h
    obtain ⟨xs, h1, h2⟩ := ex e2
    exact ⟨xs, h1, by rw [h2.len]; exact Nat.le_refl _⟩
  · cases h
    obtain ⟨xs, h1, h2⟩ := ex e2
    rw [h2.len] at hi
    exact ⟨xs, xs[i], h1, by simp [hi]⟩
  · cases h
    obtain ⟨xs, h1, h2⟩ := ex e2
    obtain ⟨rfl, hx⟩ := hy
    obtain ⟨d, h3, h4⟩ := h2.get' (hx xs h1)
    exact ⟨d, h3, Ext.refl, g2, fun _ _ z => z, h4⟩
theorem walk_tup {K : KW} {Y : Lay} {H : Hp} {p : Addr} {xs : List V} {ds : List D} (hs : SqT K H p xs) (hr : RepL K Y H ds xs) : Walk K (Itt K p) ds none Y H := by
  refine ⟨fun Y2 S2 H2 es e2 g2 h => ?_, fun i Y2 S2 H2 es e2 g2 h hi => ?_, fun i Y2 S2 H2 es x H3 e2 g2 h hi hy => ?_⟩
  · cases h
    exact ⟨xs, e2.sqt hs, by rw [hr.len]; exact Nat.le_refl _⟩
  · cases h
    rw [hr.len] at hi
    exact ⟨xs, xs[i], e2.sqt hs, by simp [hi]⟩
  · cases h
    obtain ⟨rfl, hx⟩ := hy
    obtain ⟨d, h1, h2⟩ := hr.get' (hx xs (e2.sqt hs))
    exact ⟨d, h1, Ext.refl, g2, fun _ _ z => z, h2.mono e2⟩
theorem walk_str {K : KW} {Y : Lay} {H : Hp} {s : Cs} : Walk K (Its (sv s)) (signs s) none Y H := by
  have hl : (signs s).length = (sv s).cps.size := by simp [signs]
  refine ⟨fun Y2 S2 H2 es e2 g2 h => ?_, fun i Y2 S2 H2 es e2 g2 h hi => ?_, fun i Y2 S2 H2 es x H3 e2 g2 h hi hy => ?_⟩
  · cases h
    show (sv s).cps.size ≤ _
    omega
  · cases h
    show i < (sv s).cps.size
    omega
  · cases h
    obtain ⟨rfl, c, hc, rfl⟩ := hy
    refine ⟨.str [c], ?_, Ext.refl, g2, fun _ _ z => z, .str [c]⟩
    have hc' : s[i]? = some c := by simpa using hc
    unfold signs
    rw [List.getElem?_map, hc']
    rfl
theorem ext_loc {Y Y2 : Lay} {H H2 : Hp} {n : Nat} {p : Addr} (e : Ext Y H Y2 H2) (h : Y.loc[n]? = some p) : Y2.loc[n]? = some p := by
  obtain ⟨m, em⟩ := e.pre
  rw [em, List.getElem?_append_left (List.getElem?_eq_some_iff.mp h).1]
  exact h
theorem walk_loc {K : KW} {Y : Lay} {H : Hp} {n : Nat} {p : Addr} {ds : List D} (hl : Y.loc[n]? = some p) : Walk K (Itl K p) ds (some (lvL n)) Y H := by
  have rd : ∀ {Y2 : Lay} {S2 : Store} {H2 : Hp} {es : List D}, Ext Y H Y2 H2 → Good K Y2 S2 H2 → items S2 ds (some (lvL n)) = some es → ∃ xs, H2 p = some (.lst xs) ∧ RepL K Y2 H2 es xs := fun {Y2 S2 H2 es} e2 g2 h => by
    unfold items lvL at h
    simp only at h
    split at h
    · rename_i fs e
      split at h
      · cases h
        split at e
        · rename_i q
          cases e
          exact g2.at' n _ p q (ext_loc e2 hl)
        · cases e
      · cases h
    · cases h
  refine ⟨fun Y2 S2 H2 es e2 g2 h => ?_, fun i Y2 S2 H2 es e2 g2 h hi => ?_, fun i Y2 S2 H2 es x H3 e2 g2 h hi hy => ?_⟩
  · obtain ⟨xs, h1, h2⟩ := rd e2 g2 h
    exact ⟨xs, .inl (.inl h1), by rw [h2.len]; exact Nat.le_refl _⟩
  · obtain ⟨xs, h1, h2⟩ := rd e2 g2 h
    rw [h2.len] at hi
    exact ⟨xs, xs[i], .inl (.inl h1), by simp [hi]⟩
  · obtain ⟨xs, h1, h2⟩ := rd e2 g2 h
    obtain ⟨rfl, hx⟩ := hy
    obtain ⟨d, h3, h4⟩ := h2.get' (hx xs (.inl (.inl h1)))
    exact ⟨d, h3, Ext.refl, g2, fun _ _ z => z, h4⟩
theorem pi_val {tg : Expr} (ha : PeF X U e Fa) : PiF X U tg e (iVal Fa) := by
  obtain ⟨te, p, q⟩ := ha
  refine ⟨_, PI.or (pi_list p) (PI.or (pi_tup p) (pi_str p)), fun Y S H σ ρ R g rs h => ?_⟩
  unfold iVal at h
  -- which of the three is told by the value
  cases er : Fa ρ S with
  | un => rw [er] at h; exact h.elim
  | ex c T => rw [er] at h; exact .inl (q Y S H σ ρ _ g rs (by rw [er]; exact h))
  | ok d T =>
    rw [er] at h
    simp only [Res.ok_bind] at h
    have go : ∀ {Φ : V → Hp → Prop}, (∀ Y1 H1, Ext Y H Y1 H1 → Good (kwX X U) Y1 T H1 → ∀ x, Rep (kwX X U) Y1 H1 d x → Φ x H1) → te σ H Φ := fun {Φ} k => q Y S H σ ρ _ g rs (by rw [er]; exact fun Y1 H1 e1 g1 x rx => k Y1 H1 e1 g1 x rx)
    cases d with
    | lst ds =>
      refine .inl (go fun Y1 H1 e1 g1 x rx => ?_)
      obtain ⟨p, xs, rfl, k1, k2⟩ := lst_read (S := T) g1 rx rfl
      exact ⟨_, rfl, ⟨_, k1⟩, h Y1 H1 e1 g1 _ (walk_lst (xs := xs) rx)⟩
    | tup ds =>
      refine .inr (.inl (go fun Y1 H1 e1 g1 x rx => ?_))
      cases rx with
      | tup hs hr => exact ⟨_, rfl, ⟨_, hs⟩, h Y1 H1 e1 g1 _ (walk_tup hs hr)⟩
    | str s =>
      obtain ⟨hz, h⟩ := ite_ok h
      refine .inr (.inr (go fun Y1 H1 e1 g1 x rx => ?_))
      cases rx with
      | str => exact ⟨_, rfl, h Y1 H1 e1 g1 _ walk_str⟩
    | loc n =>
      refine .inl (go fun Y1 H1 e1 g1 x rx => ?_)
      cases rx with
      | loc hl =>
        simp only at h
        split at h
        · rename_i ds ed
          obtain ⟨xs, h1, h2⟩ := g1.at' n _ _ ed hl
          exact ⟨_, rfl, ⟨xs, .inl (.inl h1)⟩, h Y1 H1 e1 g1 _ (walk_loc hl)⟩
        · exact h.elim
    | _ => exact h.elim
theorem rngD_len (lo : Int) (n : Nat) : (rngD lo n).length = n := by simp [rngD]
theorem walk_rng {K : KW} {Y : Lay} {H : Hp} {lo : Int} {n : Nat} : Walk K (Itr lo n) (rngD lo n) none Y H := by
  refine ⟨fun Y2 S2 H2 es e2 g2 h => ?_, fun i Y2 S2 H2 es e2 g2 h hi => ?_, fun i Y2 S2 H2 es x H3 e2 g2 h hi hy => ?_⟩
  · cases h
    show n ≤ _
    rw [rngD_len]
    exact Nat.le_refl _
  · cases h
    rw [rngD_len] at hi
    exact hi
  · cases h
    obtain ⟨rfl, rfl⟩ := hy
    rw [rngD_len] at hi
    refine ⟨.int (lo + i), ?_, Ext.refl, g2, fun _ _ z => z, .int _⟩
    unfold rngD
    rw [List.getElem?_map, List.getElem?_range hi]
    rfl
theorem pi_rng1 {tg : Expr} {p : Pos} (ha : PeF X U a Fa) (hm : X.mg "range" = none) (hg : Gl X "range" := by rfl) (hs : starEach [a] X.env = [(false, eval a X.env)] := by rfl)
    (hp : starEach (a :: []) X.env = (false, eval a X.env) :: starEach [] X.env := by rfl) : PiF X U tg (.Call (.Name "range" p) [a] [] pos) (iRange1 Fa) := by
  obtain ⟨ta, p1, q1⟩ := ha
  refine ⟨_, pi_range1 hg hm (pa_cons p1 pa_nil hp) hs, fun Y S H σ ρ R g rs h => q1 Y S H σ ρ _ g rs ((Pst.bind h).imp fun d S1 Y1 H1 e1 g1 h1 x rx => ?_)⟩
  cases rx with
  | int n =>
    obtain ⟨hz, h1⟩ := ite_ok h1
    exact ⟨n, rfl, by omega, by omega, h1.now g1 _ walk_rng⟩
  | _ => exact h1.elim
theorem pi_rng2 {tg : Expr} {p : Pos} (ha : PeF X U a Fa) (hb : PeF X U b Fb) (hm : X.mg "range" = none) (hg : Gl X "range" := by rfl) (hs : starEach [a, b] X.env = [(false, eval a X.env), (false, eval b X.env)] := by rfl) (hs2 : starEach [b] X.env = [(false, eval b X.env)] := by rfl)
    (hp : starEach (a :: [b]) X.env = (false, eval a X.env) :: starEach [b] X.env := by rfl) (hp2 : starEach (b :: []) X.env = (false, eval b X.env) :: starEach [] X.env := by rfl) :
    PiF X U tg (.Call (.Name "range" p) [a, b] [] pos) (iRange2 Fa Fb) := by
  obtain ⟨ta, p1, q1⟩ := ha
  obtain ⟨tb, p2, q2⟩ := hb
  refine ⟨_, pi_range2 hg hm (pa_cons p1 (pa_cons p2 pa_nil hp2) hp) hs hs2, fun Y S H σ ρ R g rs h => q1 Y S H σ ρ _ g rs ((Pst.bind h).imp fun d S1 Y1 H1 e1 g1 h1 x rx =>
    q2 Y1 S1 H1 σ ρ _ g1 (rs.mono e1) ((Pst.bind h1).imp fun d2 S2 Y2 H2 e2 g2 h2 y ry => ?_))⟩
  cases rx with
  | int m =>
    cases ry with
    | int n =>
      obtain ⟨hz, h2⟩ := ite_ok h2
      exact ⟨m, n, rfl, by omega, h2.now g2 _ walk_rng⟩
    | _ => exact h2.elim
  | _ => exact h2.elim

/-! ### comprehensions -/
structure PtsF (X : Cx) (U : Wh) (ifs : List Expr) (F : FT) : Prop where
  ex : ∃ tt, PTs X ifs tt ∧ DT (kwX X U) U tt F
theorem pts_no : PtsF X U [] tYes := ⟨_, pts_nil, fun Y S H σ ρ Q g rs h => h.now g⟩
theorem pts_if {c : Expr} {F : FT} (h : PtF X U c F) : PtsF X U [c] F := by
  obtain ⟨t, p, q⟩ := h
  exact ⟨_, pts_one p, q⟩
end
end WF

set_option Elab.async false
set_option linter.all false
set_option maxRecDepth 100000
set_option maxHeartbeats 4000000
/-! # Rules5: comprehensions -/
namespace WF
open PySem L2 PyProof.Rows

/-- an address is hidden: it may change -/
def Lay.hide (Y : Lay) (p : Addr) : Lay := ⟨Y.loc, fun a => Y.vol a ∨ a = p, fun a h => .inl (Y.sub a h)⟩
/-- it is shown again -/
def Lay.show (Y : Lay) (p : Addr) (h : p ∉ Y.loc) : Lay := ⟨Y.loc, fun a => Y.vol a ∧ a ≠ p, fun a q => ⟨Y.sub a q, fun z => h (z ▸ q)⟩⟩
section
variable {K : KW} {Y Y1 Y' : Lay} {S : Store} {H H1 H' : Hp} {p : Addr} {o : HO}
theorem extV_show (h : p ∉ Y.loc) : ExtV Y H (Y.show p h) H := ⟨⟨[], by simp [Lay.show]⟩, fun _ _ q _ _ => q, fun _ _ q => q, fun a q => .inl q.1⟩
theorem good_show (g : Good K Y S H) (h : p ∉ Y.loc) : Good K (Y.show p h) S H :=
  ⟨g.len, g.nd, fun n mo a h1 h2 => (g.at' n mo a h1 h2).monoV (extV_show h) rfl, fun a q => g.there a q.1, fun x hx => (g.tabs x hx).mono (extV_show h) rfl⟩
theorem ext_show (g1 : ∀ a, Y1.vol a → H1 a ≠ none) (e : Ext Y1 H1 Y' H') (hp : H1 p = none) (h : p ∉ Y'.loc) : Ext Y1 H1 (Y'.show p h) H' :=
  ⟨e.pre, fun a q => ⟨e.vol a q, fun z => g1 a q (z ▸ hp)⟩, e.keep, e.tups, fun a q => e.fresh a q.1, e.newl, e.dom, e.frz⟩
theorem ext_hide (hp : H p = none) : Ext Y H (Y.hide p) (upd H p o) :=
  have e : Ext Y H Y (upd H p o) := Ext.new hp
  ⟨⟨[], by simp [Lay.hide]⟩, fun a q => .inl q, e.keep, e.tups, fun a q => by
    rcases q with q | q
    · exact .inl q
    · exact .inr (by rw [q]; exact hp), fun a q => .inl q, e.dom, e.frz⟩
theorem extV_hide (hp : H p = none) : ExtV Y H (Y.hide p) (upd H p o) := (ext_hide hp).v
theorem good_hide (g : Good K Y S H) (hp : H p = none) : Good K (Y.hide p) S (upd H p o) :=
  ⟨g.len, g.nd, fun n mo a h1 h2 => (g.at' n mo a h1 h2).monoV (extV_hide hp) (upd_ne fun z => g.there a (Y.sub a (List.mem_of_getElem? h2)) (z ▸ hp)), fun a q => by
    by_cases z : a = p
    · rw [z, upd_same]; exact fun w => nomatch w
    · rw [upd_ne z]
      rcases q with q | q
      · exact g.there a q
      · exact absurd q z, fun x hx => (g.tabs x hx).mono (extV_hide hp) (upd_ne ((g.tabs x hx).ne hp))⟩
/-- the hidden object is changed -/
theorem extV_upd (hv : Y.vol p) (nt : ∀ xs, ¬ Rd H p (.tup xs)) : ExtV Y H Y (upd H p o) :=
  ⟨⟨[], by simp⟩, fun a u q n _ => by rw [upd_ne fun (z : a = p) => n (z ▸ hv)]; exact q, fun a xs q => by
    have : a ≠ p := fun z => nt xs (z ▸ q)
    unfold Rd
    rw [upd_ne this]
    exact q, fun _ q => .inl q⟩
theorem good_upd (g : Good K Y S H) (hv : Y.vol p) (hl : p ∉ Y.loc) (nt : ∀ xs, ¬ Rd H p (.tup xs)) : Good K Y S (upd H p o) :=
  ⟨g.len, g.nd, fun n mo a h1 h2 => (g.at' n mo a h1 h2).monoV (extV_upd hv nt) (upd_ne fun z => hl (z ▸ List.mem_of_getElem? h2)), fun a q => by
    by_cases z : a = p
    · rw [z, upd_same]; exact fun w => nomatch w
    · rw [upd_ne z]; exact g.there a q, fun x hx => (g.tabs x hx).mono (extV_upd hv nt) (upd_ne ((g.tabs x hx).nev hv))⟩
theorem ext_upd (e : Ext Y1 H1 Y' H') (hp : H1 p = none) : Ext Y1 H1 Y' (upd H' p o) :=
  ⟨e.pre, e.vol, fun a u q n ht => by rw [upd_ne (ne_of_none q hp)]; exact e.keep a u q n ht, fun a xs q => by
    obtain ⟨u, hu⟩ := Rd.some q
    unfold Rd
    rw [upd_ne (ne_of_none hu hp)]
    exact e.tups a xs q, e.fresh, e.newl, fun a q => by
    by_cases z : a = p
    · rw [z, upd_same] at q; cases q
    · rw [upd_ne z] at q; exact e.dom a q, fun a od u q => by rw [upd_ne (ne_of_none q hp)]; exact e.frz a od u q⟩
end

theorem wipe_in {σ : L2.St} : ∀ {vs : List Nat} {i : Nat}, i ∈ vs → (L2.wipe σ vs)[i]? = if i < σ.length then some none else none
  | v :: vs, i, h => by
    unfold L2.wipe
    by_cases e : v = i
    · subst e
      by_cases hl : v < σ.length
      · rw [List.getElem?_set_self (by rw [L2.wipe_length]; exact hl), if_pos hl]
      · rw [List.getElem?_eq_none (by rw [List.length_set, L2.wipe_length]; omega), if_neg hl]
    · rw [List.getElem?_set_ne e]
      exact wipe_in ((List.mem_cons.mp h).resolve_left (Ne.symm e))
theorem wipe_same {σ σ2 : L2.St} {vs ws : List Nat} (hw : ∀ i ∈ ws, i ∈ vs) (h : ∀ i, i ∉ ws → σ2[i]? = (L2.wipe σ vs)[i]?) (hl : σ2.length = (L2.wipe σ vs).length) : L2.wipe σ2 vs = L2.wipe σ vs := by
  refine List.ext_getElem? fun i => ?_
  rw [L2.wipe_length] at hl
  by_cases hi : i ∈ vs
  · rw [wipe_in hi, wipe_in hi, hl]
  · rw [L2.wipe_out hi, h i fun z => hi (hw i z)]

/-! ### the turns of a comprehension, whatever is walked -/
def compC (g : FG) (vs : List Nat) (t : FT) (e : FE) (ρ : Env) (ds : List D) (w : Option Live) (i : Nat) : M (List D) := match w with
  | none => compL g vs t e ρ (ds.drop i)
  | some n => compN g vs t e ρ n ds.length (ds.length - i)
def stepC (g : FG) (vs : List Nat) (t : FT) (e : FE) (ρ : Env) (d : D) (k : M (List D)) : M (List D) := fun S =>
  (g d (wipe ρ vs) S).noex.bind fun ρ1 S1 => (t ρ1 S1).noex.bind fun c S2 =>
    if c = true then (e ρ1 S2).noex.bind fun y S3 => (k S3).bind fun ys S4 => .ok (y :: ys) S4 else k S2
theorem compC_end {g : FG} {vs : List Nat} {t : FT} {e : FE} {ρ : Env} {ds : List D} {w : Option Live} {S : Store} : compC g vs t e ρ ds w ds.length S = .un ∨ (∃ es, items S ds w = some es) ∧ compC g vs t e ρ ds w ds.length S = .ok [] S := by
  cases w with
  | none =>
    right
    refine ⟨⟨ds, rfl⟩, ?_⟩
    show compL g vs t e ρ (ds.drop ds.length) S = _
    rw [List.drop_length]
    rfl
  | some n =>
    show compN g vs t e ρ n ds.length (ds.length - ds.length) S = .un ∨ _
    rw [Nat.sub_self]
    unfold compN
    split
    · rename_i es he
      by_cases h : es.length = ds.length
      · right
        refine ⟨⟨es, by unfold items; simp only [he, if_pos h]⟩, ?_⟩
        show compN g vs t e ρ n ds.length (ds.length - ds.length) S = _
        rw [Nat.sub_self]
        unfold compN
        simp only [he, if_pos h]
      · left
        rw [if_neg h]
    · exact .inl rfl
theorem compC_step {g : FG} {vs : List Nat} {t : FT} {e : FE} {ρ : Env} {ds : List D} {w : Option Live} {S : Store} {i : Nat} (hi : i < ds.length) :
    compC g vs t e ρ ds w i S = .un ∨ ∃ es d, items S ds w = some es ∧ es[i]? = some d ∧ compC g vs t e ρ ds w i S = stepC g vs t e ρ d (compC g vs t e ρ ds w (i + 1)) S := by
  cases w with
  | none =>
    right
    refine ⟨ds, ds[i], rfl, by simp [hi], ?_⟩
    show compL g vs t e ρ (ds.drop i) S = stepC g vs t e ρ ds[i] (compL g vs t e ρ (ds.drop (i + 1))) S
    rw [List.drop_eq_getElem_cons hi]
    rfl
  | some n =>
    have e1 : ds.length - i = (ds.length - (i + 1)) + 1 := by omega
    have e2 : ds.length - (ds.length - (i + 1) + 1) = i := by omega
    have eq : compC g vs t e ρ ds (some n) i S = compN g vs t e ρ n ds.length ((ds.length - (i + 1)) + 1) S := by
      show compN g vs t e ρ n ds.length (ds.length - i) S = _
      rw [e1]
    rw [eq]
    unfold compN
    rw [e2]
    split
    · rename_i es he
      by_cases h : es.length = ds.length
      · rw [if_pos h]
        split
        · rename_i d hd
          exact .inr ⟨es, d, by unfold items; simp only [he, if_pos h], hd, rfl⟩
        · exact .inl rfl
      · left
        rw [if_neg h]
    · exact .inl rfl

section
variable {K : KW} {U U0 : Wh} {G : FG} {T : FT} {Fe : FE} {it : FI} {wi : TI} {vs ws : List Nat}
theorem noex_ok {α : Type} {r : Res α} (h : r.noex ≠ .un) : ∃ a S, r = .ok a S := by
  cases r with
  | ok a S => exact ⟨a, S, rfl⟩
  | ex c S => exact absurd rfl h
  | un => exact absurd rfl h
theorem DE.comp (hi : DI K U wi it) (hw : ∀ i ∈ ws, i ∈ vs) : DE K U (tLc wi (canonG K U0 ws G) (canonT K U0 T) (canonE K U0 Fe) vs) (dComp it G vs T Fe) := by
  intro Y S H σ ρ Q g0 rs h
  unfold dComp at h
  refine hi Y S H σ ρ _ g0 rs ((Pst.bind h).imp fun p S1 Y1 H1 e1 g1 h1 J wk D hD => ?_)
  obtain ⟨ds, w⟩ := p
  obtain ⟨hl, h1⟩ := ite_ok h1
  have rs1 := rs.mono e1
  -- the whole as the turns from the first on
  have h2 : Pst K U Y1 H1 (PD K Q) ((compC G vs T Fe ρ ds w 0 S1).bind fun ys S2 => .ok (.lst ([] ++ ys)) S2) := by
    cases w with
    | none => exact h1
    | some n => exact h1
  have vol1 : ∀ a, Y1.vol a → H1 a ≠ none := g1.there
  refine ⟨fun i m H' => ∃ Y' S' acc done, m = ds.length - i ∧ i ≤ ds.length ∧ Ext Y1 H1 Y' H' ∧ Good K Y' S' H' ∧ Y'.vol D ∧ D ∉ Y'.loc ∧ H' D = some (.lst acc) ∧ RepL K Y' H' done acc ∧ done.length ≤ i ∧
    Pst K U Y1 H1 (PD K Q) ((compC G vs T Fe ρ ds w i S').bind fun ys S2 => .ok (.lst (done ++ ys)) S2), ?_, ?_⟩
  · exact ⟨_, Y1.hide D, S1, [], [], rfl, Nat.zero_le _, ext_hide hD, good_hide g1 hD, .inr rfl, fun z => vol1 D (Y1.sub D z) hD, upd_same, .nil, Nat.le_refl _, h2⟩
  · rintro i m H' ⟨Y', S', acc, done, rfl, hi', eX, gX, vX, lX, hacc, racc, hdone, hP⟩
    by_cases hlt : i < ds.length
    · rcases compC_step (g := G) (vs := vs) (t := T) (e := Fe) (ρ := ρ) (w := w) (S := S') hlt with z | ⟨es, d, hes, hd, z⟩
      · rw [z] at hP; exact hP.elim
      · rw [z] at hP
        have hes' := items_len hes
        refine .inr ⟨wk.go i Y' S' H' es eX gX hes (by omega), fun H'' => ∃ m', m' < ds.length - i ∧ ∃ Y' S' acc done, m' = ds.length - (i + 1) ∧ i + 1 ≤ ds.length ∧ Ext Y1 H1 Y' H'' ∧ Good K Y' S' H'' ∧ Y'.vol D ∧ D ∉ Y'.loc ∧ H'' D = some (.lst acc) ∧ RepL K Y' H'' done acc ∧
          done.length ≤ i + 1 ∧ Pst K U Y1 H1 (PD K Q) ((compC G vs T Fe ρ ds w (i + 1) S').bind fun ys S2 => .ok (.lst (done ++ ys)) S2), fun _ q => q, fun x H2 hy => ?_⟩
        obtain ⟨d', hd', e2, g2, k2, r2⟩ := wk.yld i Y' S' H' es x H2 eX gX hes (by omega) hy
        rw [hd] at hd'
        cases hd'
        have hD2 : H2 D = some (.lst acc) := k2 D _ hacc
        have rsw := ((rs1.mono eX).mono e2).wipe vs
        unfold stepC at hP
        -- the target
        cases eg : G d (WF.wipe ρ vs) S' with
        | un => rw [eg] at hP; exact hP.elim
        | ex c T' => rw [eg] at hP; exact hP.elim
        | ok ρ1 S2 =>
          rw [eg] at hP
          simp only [Res.ok_noex, Res.ok_bind] at hP
          refine ⟨Y', S', WF.wipe ρ vs, d, g2, rsw, r2, ?_⟩
          rw [eg]
          intro Y3 H3 e3 g3 σ3 rs3 k3 l3
          refine ⟨wipe_same hw k3 l3, ?_⟩
          have lX3 : D ∉ Y3.loc := fun z => by
            rcases e3.newl D z with q | q
            · exact lX q
            · rw [hD2] at q; cases q
          have hD3 : H3 D = some (.lst acc) := e3.keep D _ hD2 lX fun _ z => nomatch z
          -- the test
          cases et : T ρ1 S2 with
          | un => rw [et] at hP; exact hP.elim
          | ex c T' => rw [et] at hP; exact hP.elim
          | ok c S3 =>
            rw [et] at hP
            simp only [Res.ok_noex, Res.ok_bind] at hP
            refine ⟨Y3, S2, ρ1, g3, rs3, ?_⟩
            rw [et]
            intro Y4 H4 e4 g4
            have lX4 : D ∉ Y4.loc := fun z => by
              rcases e4.newl D z with q | q
              · exact lX3 q
              · rw [hD3] at q; cases q
            have hD4 : H4 D = some (.lst acc) := e4.keep D _ hD3 lX3 fun _ z => nomatch z
            have eX4 : Ext Y1 H1 Y4 H4 := ((eX.trans e2).trans e3).trans e4
            cases c with
            | false =>
              rw [if_neg Bool.false_ne_true] at hP
              dsimp only
              rw [if_neg Bool.false_ne_true]
              exact ⟨_, by omega, Y4, S3, acc, done, rfl, hlt, eX4, g4, e4.vol D (e3.vol D vX), lX4, hD4, ((racc.mono e2).mono e3).mono e4, by omega, hP⟩
            | true =>
              rw [if_pos rfl] at hP
              dsimp only
              rw [if_pos rfl]
              -- the element
              cases ee : Fe ρ1 S3 with
              | un => rw [ee] at hP; exact hP.elim
              | ex c T' => rw [ee] at hP; exact hP.elim
              | ok y S4 =>
                rw [ee] at hP
                simp only [Res.ok_noex, Res.ok_bind] at hP
                refine ⟨Y4, S3, ρ1, g4, rs3.mono e4, ?_⟩
                rw [ee]
                intro Y5 H5 e5 g5 v rv
                have lX5 : D ∉ Y5.loc := fun z => by
                  rcases e5.newl D z with q | q
                  · exact lX4 q
                  · rw [hD4] at q; cases q
                have hD5 : H5 D = some (.lst acc) := e5.keep D _ hD4 lX4 fun _ z => nomatch z
                have vX5 : Y5.vol D := e5.vol D (e4.vol D (e3.vol D vX))
                have racc5 := (((racc.mono e2).mono e3).mono e4).mono e5
                have nt : ∀ xs, ¬ Rd H5 D (.tup xs) := fun xs q => by
                  rcases q with q | ⟨o, q⟩
                  · rw [hD5] at q; cases q
                  · rw [hD5] at q; cases q
                have ev : ExtV Y5 H5 Y5 (upd H5 D (.lst (acc ++ [v]))) := extV_upd vX5 nt
                refine ⟨acc, hD5, ?_, _, by omega, Y5, S4, acc ++ [v], done ++ [y], rfl, hlt, ext_upd (eX4.trans e5) hD, good_upd g5 vX5 lX5 nt, vX5, lX5, upd_same, (racc5.append (.cons rv .nil)).monoV ev, by simp; omega, ?_⟩
                · rw [← racc5.len, ← lim_eq]
                  have : ds.length ≤ lim := hl
                  omega
                · rw [Res.bind_assoc] at hP
                  simp only [Res.ok_bind] at hP
                  have this : ∀ (ys : List WF.D), done ++ [y] ++ ys = done ++ y :: ys := fun ys => by simp
                  simp only [this]
                  exact hP
    · have e : i = ds.length := by omega
      subst e
      left
      rcases compC_end (g := G) (vs := vs) (t := T) (e := Fe) (ρ := ρ) (ds := ds) (w := w) (S := S') with z | ⟨⟨es, hes⟩, z⟩
      · rw [z] at hP; exact hP.elim
      · rw [z] at hP
        simp only [Res.ok_bind, List.append_nil] at hP
        have hs := wk.stop Y' S' H' es eX gX hes
        rw [items_len hes] at hs
        refine ⟨hs, ?_⟩
        exact hP (Y'.show D lX) H' (ext_show vol1 eX hD lX) (good_show gX lX) _ (.lst (.inl hacc) (fun q => q.2 rfl) (racc.monoV (extV_show lX)))
end

section
variable {X : Cx} {U : Wh} {elt tg iter : Expr} {ifs : List Expr} {scope : Scope} {own : List (PySem.Str × Nat)} {pos spos : Pos} {G : FG} {T : FT} {Fe : FE} {it : FI} {ws : List Nat}
/-- no exception is wished for -/
def Wh.no (U : Wh) : Wh := ⟨fun _ _ _ => False, U.cl⟩
theorem pf_comp {vs : List Nat} (hc : X.calm = true) (hN : X.N.Nodup) (hi : PiF X U tg iter it) (ok : BlkOk X.N X.env.scope scope own)
    (hg : ∀ (s : Shared) (H : Hp) (C : Addr) (cl : List (PySem.Str × Addr)) (fp : List Addr), PgF (X.blk s H scope (compEnvC scope cl C X.env) fp) U.no tg ws G)
    (ht : ∀ (s : Shared) (H : Hp) (C : Addr) (cl : List (PySem.Str × Addr)) (fp : List Addr), PtsF (X.blk s H scope (compEnvC scope cl C X.env) fp) U.no ifs T)
    (he : ∀ (s : Shared) (H : Hp) (C : Addr) (cl : List (PySem.Str × Addr)) (fp : List Addr), PeF (X.blk s H scope (compEnvC scope cl C X.env) fp) U.no elt Fe)
    (hv : own.map (·.2) = vs := by rfl) (hw : ∀ i ∈ ws, i ∈ vs := by decide) (hs : ∀ x, foldedSetIterable iter X.env x = pure x := by intro _; rfl) :
    PeF X U (.ListComp elt [⟨tg, iter, ifs, 0⟩] scope pos) (dComp it G vs T Fe) := by
  obtain ⟨wi, p1, q1⟩ := hi
  subst hv
  have ht' : ∀ (s : Shared) (H : Hp) (C : Addr) (cl : List (PySem.Str × Addr)) (fp : List Addr), PTs (X.blk s H scope (compEnvC scope cl C X.env) fp) ifs (canonT (kwX X U) U.no T) := fun s H C cl fp => by
    obtain ⟨tt, p, q⟩ := ht s H C cl fp
    exact ⟨fun pins s' σ H' Q I ⟨Y, S, ρ, g, r, k⟩ => p.run pins s' σ H' Q I (q Y S H' σ ρ Q g r k)⟩
  have hg' : ∀ (s : Shared) (H : Hp) (C : Addr) (cl : List (PySem.Str × Addr)) (fp : List Addr), PG (X.blk s H scope (compEnvC scope cl C X.env) fp) tg (canonG (kwX X U) U.no ws G) := fun s H C cl fp => (hg s H C cl fp).canon
  have he' : ∀ (s : Shared) (H : Hp) (C : Addr) (cl : List (PySem.Str × Addr)) (fp : List Addr), PE (X.blk s H scope (compEnvC scope cl C X.env) fp) elt (canonE (kwX X U) U.no Fe) := fun s H C cl fp => (he s H C cl fp).canon
  exact ⟨_, pe_lc hc hN p1 ok hg' ht' he' hs, DE.comp q1 hw⟩
/-- name = [..] on one line, the name a local -/
theorem ps_setcomp {vs : List Nat} (i : Nat) {y : PySem.Str} {py : Pos} (hc : X.calm = true) (hN : X.N.Nodup) (hi : PiF X U tg iter it) (ok : BlkOk X.N X.env.scope scope own)
    (hg : ∀ (s : Shared) (H : Hp) (C : Addr) (cl : List (PySem.Str × Addr)) (fp : List Addr), PgF (X.blk s H scope (compEnvC scope cl C X.env) fp) U.no tg ws G)
    (ht : ∀ (s : Shared) (H : Hp) (C : Addr) (cl : List (PySem.Str × Addr)) (fp : List Addr), PtsF (X.blk s H scope (compEnvC scope cl C X.env) fp) U.no ifs T)
    (he : ∀ (s : Shared) (H : Hp) (C : Addr) (cl : List (PySem.Str × Addr)) (fp : List Addr), PeF (X.blk s H scope (compEnvC scope cl C X.env) fp) U.no elt Fe)
    (hsw : swapsWith (.ListComp elt [⟨tg, iter, ifs, 0⟩] scope pos) (some (.Name y py)) spos.line X.env = pure true)
    (hy : X.N[i]? = some y := by rfl) (hyl : X.env.scope.names.lookup y = some .local := by rfl)
    (hv : own.map (·.2) = vs := by rfl) (hw : ∀ i ∈ ws, i ∈ vs := by decide) (hs : ∀ x, foldedSetIterable iter X.env x = pure x := by intro _; rfl) :
    PsF X U (.Assign [.Name y py] (.ListComp elt [⟨tg, iter, ifs, 0⟩] scope pos) spos) (sAsg (dComp it G vs T Fe) (gName i)) := by
  obtain ⟨wi, p1, q1⟩ := hi
  subst hv
  have ht' : ∀ (s : Shared) (H : Hp) (C : Addr) (cl : List (PySem.Str × Addr)) (fp : List Addr), PTs (X.blk s H scope (compEnvC scope cl C X.env) fp) ifs (canonT (kwX X U) U.no T) := fun s H C cl fp => by
    obtain ⟨tt, p, q⟩ := ht s H C cl fp
    exact ⟨fun pins s' σ H' Q I ⟨Y, S, ρ, g, r, k⟩ => p.run pins s' σ H' Q I (q Y S H' σ ρ Q g r k)⟩
  have hg' : ∀ (s : Shared) (H : Hp) (C : Addr) (cl : List (PySem.Str × Addr)) (fp : List Addr), PG (X.blk s H scope (compEnvC scope cl C X.env) fp) tg (canonG (kwX X U) U.no ws G) := fun s H C cl fp => (hg s H C cl fp).canon
  have he' : ∀ (s : Shared) (H : Hp) (C : Addr) (cl : List (PySem.Str × Addr)) (fp : List Addr), PE (X.blk s H scope (compEnvC scope cl C X.env) fp) elt (canonE (kwX X U) U.no Fe) := fun s H C cl fp => (he s H C cl fp).canon
  refine ⟨_, ps_setLc hc hN hy hyl hsw p1 ok hg' ht' he' hs, fun Y S H σ ρ En g0 rs h => ?_⟩
  refine DE.comp (U0 := U.no) q1 hw Y S H σ ρ _ g0 rs ((Pst.bind h).imp fun d S1 Y1 H1 e1 g1 h1 v rv => ?_)
  exact h1.now g1 _ ((rs.mono e1).set rv i)
end
end WF

set_option Elab.async false
set_option linter.all false
set_option maxRecDepth 100000
set_option maxHeartbeats 4000000
/-! # Rules6: statements, loops, defs and their calls -/
namespace WF
open PySem L2 PyProof.Rows
section
variable {X : Cx} {U : Wh} {a b e : Expr} {Fa Fb : FE} {pos : Pos} {F G : FS}

/-! ### blocks and small statements -/
theorem pssf_nil : PssF X U [] sNil := ⟨_, pss_nil, fun Y S H σ ρ En g rs h => h.now g σ rs⟩
theorem EndsOk.nx {K : KW} {En : Ends} {ts : TS} (hts : DS K U ts G) {c : Ctl} {S : Store} {Y : Lay} {H : Hp} (g : Good K Y S H)
    (h : Pst K U Y H (EndsOk K En) (match c with | .next ρ1 => G ρ1 S | .ret d => .ok (.ret d) S | .brk ρ1 => .ok (.brk ρ1) S | .cnt ρ1 => .ok (.cnt ρ1) S)) : EndsOk K { En with nx := ts En } c S Y H := by
  cases c with
  | next ρ1 => exact fun σ rs => hts Y S H σ ρ1 En g rs h
  | ret d => exact h.now g
  | brk ρ1 => exact h.now g
  | cnt ρ1 => exact h.now g
theorem pssf_cons {st : Stmt} {rest : List Stmt} (h1 : PsF X U st F) (h2 : PssF X U rest G) : PssF X U (st :: rest) (sSeq F G) := by
  obtain ⟨t1, p1, q1⟩ := h1
  obtain ⟨t2, p2, q2⟩ := h2
  exact ⟨_, pss_cons p1 p2, fun Y S H σ ρ En g rs h => q1 Y S H σ ρ _ g rs ((Pst.bind h).imp fun c S1 Y1 H1 e1 g1 h1 => EndsOk.nx q2 g1 h1)⟩
theorem pssf_one {st : Stmt} (h1 : PsF X U st F) : PssF X U [st] F := by
  obtain ⟨t1, p1, q1⟩ := h1
  exact ⟨_, pss_one p1, q1⟩
theorem psf_pass : PsF X U (.Pass pos) sNil := ⟨_, ps_pass, fun Y S H σ ρ En g rs h => h.now g σ rs⟩
theorem psf_break : PsF X U (.Break pos) sBrk := ⟨_, ps_break, fun Y S H σ ρ En g rs h => h.now g σ rs⟩
theorem psf_cont : PsF X U (.Continue pos) sCnt := ⟨_, ps_continue, fun Y S H σ ρ En g rs h => h.now g σ rs⟩
theorem psf_expr (ha : PeF X U a Fa) (hs : swapsWith a none pos.line X.env = pure false := by rfl) : PsF X U (.Expr a pos) (sExpr Fa) := by
  obtain ⟨ta, p, q⟩ := ha
  exact ⟨_, ps_expr p hs, fun Y S H σ ρ En g rs h => q Y S H σ ρ _ g rs ((Pst.bind h).imp fun d S1 Y1 H1 e1 g1 h1 v rv => h1.now g1 σ (rs.mono e1))⟩
theorem psf_ret (ha : PeF X U a Fa) : PsF X U (.Return (some a) pos) (sRet Fa) := by
  obtain ⟨ta, p, q⟩ := ha
  exact ⟨_, ps_ret p, fun Y S H σ ρ En g rs h => q Y S H σ ρ _ g rs ((Pst.bind h).imp fun d S1 Y1 H1 e1 g1 h1 v rv => h1.now g1 v rv)⟩
theorem psf_if {c : Expr} {T : FT} {as bs : List Stmt} (hc : PtF X U c T) (ha : PssF X U as F) (hb : PssF X U bs G) : PsF X U (.If c as bs pos) (sIf T F G) := by
  obtain ⟨t, p0, q0⟩ := hc
  obtain ⟨t1, p1, q1⟩ := ha
  obtain ⟨t2, p2, q2⟩ := hb
  refine ⟨_, ps_if p0 p1 p2, fun Y S H σ ρ En g rs h => q0 Y S H σ ρ _ g rs ((Pst.bind h).imp fun k S1 Y1 H1 e1 g1 h1 => ?_)⟩
  cases k with
  | true => exact q1 Y1 S1 H1 σ ρ En g1 (rs.mono e1) h1
  | false => exact q2 Y1 S1 H1 σ ρ En g1 (rs.mono e1) h1
/-- target = e -/
theorem psf_asg {tg : Expr} {ws : List Nat} {Gt : FG} (ha : PeF X U a Fa) (hg : PgF X U tg ws Gt) (hs : swapsWithSole [tg] a pos.line X.env = pure false := by rfl) (hw : swappedStores [tg] a X.env = pure none := by rfl)
    (h1 : (assignEach [tg] X.env).map (·.2) = [assign tg X.env] := by rfl) : PsF X U (.Assign [tg] a pos) (sAsg Fa Gt) := by
  obtain ⟨ta, p, q⟩ := ha
  obtain ⟨t2, p2, q2⟩ := hg
  refine ⟨_, ps_asg p p2 hs hw h1, fun Y S H σ ρ En g rs h => q Y S H σ ρ _ g rs ((Pst.bind h).imp fun d S1 Y1 H1 e1 g1 h1 v rv => ?_)⟩
  exact q2 Y1 S1 H1 σ ρ d v _ g1 (rs.mono e1) rv ((Pst.bind h1).imp fun ρ2 S2 Y2 H2 e2 g2 h2 σ2 rs2 _ _ => h2.now g2 σ2 rs2)
/-- name = e -/
theorem psf_set (i : Nat) {x : PySem.Str} {px : Pos} (hN : X.N.Nodup) (ha : PeF X U a Fa) (hi : X.N[i]? = some x := by rfl) (hx : Loc X.env.scope x := by first | exact Or.inl rfl | exact Or.inr rfl)
    (hs : swapsWith a (some (.Name x px)) pos.line X.env = pure false := by rfl) (hf : X.fn x = true ∨ X.env.scope.names.lookup x = some .local := by first | exact .inl rfl | exact .inr rfl | assumption) :
    PsF X U (.Assign [.Name x px] a pos) (sAsg Fa (gName i)) := by
  obtain ⟨ta, p, q⟩ := ha
  refine ⟨_, ps_set hN hi hx p hs hf, fun Y S H σ ρ En g rs h => q Y S H σ ρ _ g rs ((Pst.bind h).imp fun d S1 Y1 H1 e1 g1 h1 v rv => ?_)⟩
  exact h1.now g1 _ ((rs.mono e1).set rv i)
/-- a, b = x, y with plain local names -/
theorem psf_par2 (i j : Nat) {x y : PySem.Str} {px py pt : Pos} {kt k2 pt2} (hc : X.calm = true) (hN : X.N.Nodup) (ha : PaF X U [a, b] [Fa, Fb]) (hi : X.N[i]? = some x := by rfl) (hj : X.N[j]? = some y := by rfl) (hij : i ≠ j := by decide)
    (hx : X.env.scope.names.lookup x = some .local := by rfl) (hy : X.env.scope.names.lookup y = some .local := by rfl)
    (hw : swappedStores [.Tuple [.Name x px, .Name y py] kt pt] (.Tuple [a, b] k2 pt2) X.env = pure (some [x, y]) := by rfl)
    (hs : swapsWithSole [.Tuple [.Name x px, .Name y py] kt pt] (.Tuple [a, b] k2 pt2) pos.line X.env = pure false := by rfl) :
    PsF X U (.Assign [.Tuple [.Name x px, .Name y py] kt pt] (.Tuple [a, b] k2 pt2) pos) (sPar [i, j] [Fa, Fb]) := by
  obtain ⟨ta, p, q⟩ := ha
  refine ⟨_, ps_par hc hN hi hj hij hx hy p hw hs, fun Y S H σ ρ En g rs h => q Y S H σ ρ _ g rs ?_⟩
  unfold sPar at h
  cases e : evalAll [Fa, Fb] ρ S with
  | un => rw [e] at h; exact h
  | ex c T => rw [e] at h; exact h
  | ok ds T =>
    rw [e] at h
    have hl := evalAll_len e
    match ds, hl with
    | [d1, d2], _ =>
      intro Y1 H1 e1 g1 vs rv
      cases rv with
      | cons r1 rv =>
        cases rv with
        | cons r2 rv =>
          cases rv
          exact ⟨_, _, rfl, h Y1 H1 e1 g1 _ (((rs.mono e1).set r1 i).set r2 j)⟩
theorem psf_par3 (i j l : Nat) {c : Expr} {Fc : FE} {x y z : PySem.Str} {px py pz pt : Pos} {kt k2 pt2} (hc : X.calm = true) (hN : X.N.Nodup) (ha : PaF X U [a, b, c] [Fa, Fb, Fc]) (hi : X.N[i]? = some x := by rfl) (hj : X.N[j]? = some y := by rfl) (hl : X.N[l]? = some z := by rfl)
    (hij : i ≠ j := by decide) (hil : i ≠ l := by decide) (hjl : j ≠ l := by decide)
    (hx : X.env.scope.names.lookup x = some .local := by rfl) (hy : X.env.scope.names.lookup y = some .local := by rfl) (hz : X.env.scope.names.lookup z = some .local := by rfl)
    (hw : swappedStores [.Tuple [.Name x px, .Name y py, .Name z pz] kt pt] (.Tuple [a, b, c] k2 pt2) X.env = pure (some [x, y, z]) := by rfl)
    (hs : swapsWithSole [.Tuple [.Name x px, .Name y py, .Name z pz] kt pt] (.Tuple [a, b, c] k2 pt2) pos.line X.env = pure false := by rfl) :
    PsF X U (.Assign [.Tuple [.Name x px, .Name y py, .Name z pz] kt pt] (.Tuple [a, b, c] k2 pt2) pos) (sPar [i, j, l] [Fa, Fb, Fc]) := by
  obtain ⟨ta, p, q⟩ := ha
  refine ⟨_, ps_par3 hc hN hi hj hl hij hil hjl hx hy hz p hw hs, fun Y S H σ ρ En g rs h => q Y S H σ ρ _ g rs ?_⟩
  unfold sPar at h
  cases e : evalAll [Fa, Fb, Fc] ρ S with
  | un => rw [e] at h; exact h
  | ex c T => rw [e] at h; exact h
  | ok ds T =>
    rw [e] at h
    have hl := evalAll_len e
    match ds, hl with
    | [d1, d2, d3], _ =>
      intro Y1 H1 e1 g1 vs rv
      cases rv with
      | cons r1 rv =>
        cases rv with
        | cons r2 rv =>
          cases rv with
          | cons r3 rv =>
            cases rv
            exact ⟨_, _, _, rfl, h Y1 H1 e1 g1 _ ((((rs.mono e1).set r1 i).set r2 j).set r3 l)⟩
/-- x op= e -/
def IpF (X : Cx) (U : Wh) (op : Operator) (g : D → D → M D) : Prop :=
  ∃ r, PIp X op r ∧ ∀ Y S H a b x y Q, Good (kwX X U) Y S H → Rep (kwX X U) Y H a x → Rep (kwX X U) Y H b y → Pst (kwX X U) U Y H (PD (kwX X U) Q) (g a b S) → r x y H Q
theorem i_add : IpF X U .Add gAddI := by
  refine ⟨_, ip_add, fun Y S H a b x y Q g ra rb h => ?_⟩
  unfold gAddI at h
  split at h
  · cases ra; cases rb
    exact ⟨_, _, rfl, rfl, h.val g (.int _)⟩
  · exact h.elim
theorem psf_aug (i : Nat) {x : PySem.Str} {px : Pos} {op : Operator} {g : D → D → M D} (hN : X.N.Nodup) (hop : IpF X U op g) (ha : PeF X U a Fa) (hi : X.N[i]? = some x := by rfl) (hx : Loc X.env.scope x := by first | exact Or.inl rfl | exact Or.inr rfl)
    (hf : X.fn x = true ∨ X.env.scope.names.lookup x = some .local := by first | exact .inl rfl | exact .inr rfl | assumption) : PsF X U (.AugAssign (.Name x px) op a pos) (sAug g i Fa) := by
  obtain ⟨ta, p, q⟩ := ha
  obtain ⟨r, hr, hq⟩ := hop
  refine ⟨_, ps_aug hN hi hx p hr hf, fun Y S H σ ρ En g0 rs h => ?_⟩
  unfold sAug at h
  split at h
  · rename_i d e
    obtain ⟨v, h1, h2⟩ := rs.2 i d e
    refine ⟨v, h1, q Y S H σ ρ _ g0 rs ((Pst.bind h).imp fun d2 S1 Y1 H1 e1 g1 h3 y ry => hq Y1 S1 H1 d d2 v y _ g1 (h2.mono e1) ry ((Pst.bind h3).imp fun d3 S2 Y2 H2 e2 g2 h4 z rz => ?_))⟩
    exact h4.now g2 _ (((rs.mono e1).mono e2).set rz i)
  · exact h.elim

/-! ### a mutable list's item is stored -/
theorem Ext.mut {K : KW} {Y : Lay} {S : Store} {H : Hp} {n : Nat} {p : Addr} {xs : List V} {o : HO} (g : Good K Y S H) (hl : Y.loc[n]? = some p) (h : H p = some (.lst xs)) : Ext Y H Y (upd H p o) :=
  Ext.chg hl (fun zs q => by
    rcases q with q | ⟨o, q⟩
    · rw [h] at q; cases q
    · rw [h] at q; cases q) (fun od u q => by rw [h] at q; cases q) (by rw [h]; exact fun z => nomatch z)
theorem Good.mutL {K : KW} {Y : Lay} {S : Store} {H : Hp} {n : Nat} {p : Addr} {xs ys : List V} {es : List D} (g : Good K Y S H) (hl : Y.loc[n]? = some p) (h : H p = some (.lst xs)) (r : RepL K Y H es ys) :
    Good K Y (S.set n (.lst es)) (upd H p (.lst ys)) :=
  Good.chg g hl (fun zs q => by
    rcases q with q | ⟨o, q⟩
    · rw [h] at q; cases q
    · rw [h] at q; cases q) (fun od u q => by rw [h] at q; cases q) ⟨ys, upd_same, r.mono (Ext.mut g hl h)⟩
theorem pg_subL {o i : Expr} {Fo Fi : FE} (ho : PeF X U o Fo) (hi : PeF X U i Fi) (ha : ∀ v, assign (.Subscript o i pos) X.env v = (do
      let ov ← holding [v] (eval o X.env)
      let iv ← holding [v, ov] (eval i X.env)
      standAt pos
      holding [v, ov, iv] (setItem ov iv v)
      release [v, ov, iv] []) := by intro _; rfl) : PgF X U (.Subscript o i pos) [] (gSubL Fo Fi) := by
  obtain ⟨t1, p1, q1⟩ := ho
  obtain ⟨t2, p2, q2⟩ := hi
  refine ⟨_, pg_sub p1 p2 set_list ha, fun Y S H σ ρ d v Q g rs rd h => q1 Y S H σ ρ _ g rs ((Pst.bind h).imp fun x S1 Y1 H1 e1 g1 h1 xo rxo => q2 Y1 S1 H1 σ ρ _ g1 (rs.mono e1)
    ((Pst.bind h1).imp fun y S2 Y2 H2 e2 g2 h2 xi rxi => ?_))⟩
  have rd2 := (rd.mono e1).mono e2
  have rs2 := (rs.mono e1).mono e2
  have h3 := Pst.bind h2
  unfold setAt at h3
  split at h3
  · rename_i n k
    cases rxi
    cases rxo.mono e2 with
    | loc hl =>
      rename_i p
      split at h3
      · rename_i ds hds
        obtain ⟨xs, hx, rx⟩ := g2.at' n _ p hds hl
        split at h3
        · rename_i j hj
          refine ⟨p, xs, k, j, rfl, rfl, hx, by rw [← rx.len]; exact hj, ?_⟩
          have ex : Ext Y2 H2 Y2 (upd H2 p (.lst (xs.set j v))) := Ext.mut g2 hl hx
          have gx := g2.mutL hl hx (rx.set rd2 j)
          exact (h3 Y2 _ ex gx).now gx σ (rs2.mono ex) (fun _ _ => rfl) rfl
        · exact h3.elim
      · exact h3.elim
  · exact h3.elim

/-! ### for -/
def loopC (g : FG) (body : FS) (ds : List D) (w : Option Live) (i : Nat) : FS := match w with
  | none => forL g body (ds.drop i)
  | some n => forN g body n ds.length (ds.length - i)
def stepL (g : FG) (body : FS) (d : D) (k : FS) : FS := fun ρ S => (g d ρ S).bind fun ρ1 S1 => (body ρ1 S1).bind fun c S2 => match c with
  | .next ρ2 => k ρ2 S2
  | .cnt ρ2 => k ρ2 S2
  | .brk ρ2 => .ok (.next ρ2) S2
  | .ret d => .ok (.ret d) S2
theorem loopC_end {g : FG} {body : FS} {ds : List D} {w : Option Live} {ρ : Env} {S : Store} : loopC g body ds w ds.length ρ S = .un ∨ (∃ es, items S ds w = some es) ∧ loopC g body ds w ds.length ρ S = .ok (.next ρ) S := by
  cases w with
  | none =>
    right
    refine ⟨⟨ds, rfl⟩, ?_⟩
    show forL g body (ds.drop ds.length) ρ S = _
    rw [List.drop_length]
    rfl
  | some n =>
    show forN g body n ds.length (ds.length - ds.length) ρ S = .un ∨ _
    rw [Nat.sub_self]
    unfold forN
    split
    · rename_i es he
      by_cases h : es.length = ds.length
      · right
        refine ⟨⟨es, by unfold items; simp only [he, if_pos h]⟩, ?_⟩
        show forN g body n ds.length (ds.length - ds.length) ρ S = _
        rw [Nat.sub_self]
        unfold forN
        simp only [he, if_pos h]
      · left
        rw [if_neg h]
    · exact .inl rfl
theorem loopC_step {g : FG} {body : FS} {ds : List D} {w : Option Live} {ρ : Env} {S : Store} {i : Nat} (hi : i < ds.length) :
    loopC g body ds w i ρ S = .un ∨ ∃ es d, items S ds w = some es ∧ es[i]? = some d ∧ loopC g body ds w i ρ S = stepL g body d (loopC g body ds w (i + 1)) ρ S := by
  cases w with
  | none =>
    right
    refine ⟨ds, ds[i], rfl, by simp [hi], ?_⟩
    show forL g body (ds.drop i) ρ S = stepL g body ds[i] (forL g body (ds.drop (i + 1))) ρ S
    rw [List.drop_eq_getElem_cons hi]
    rfl
  | some n =>
    have e1 : ds.length - i = (ds.length - (i + 1)) + 1 := by omega
    have e2 : ds.length - (ds.length - (i + 1) + 1) = i := by omega
    have eq : loopC g body ds (some n) i ρ S = forN g body n ds.length ((ds.length - (i + 1)) + 1) ρ S := by
      show forN g body n ds.length (ds.length - i) ρ S = _
      rw [e1]
    rw [eq]
    unfold forN
    rw [e2]
    split
    · rename_i es he
      by_cases h : es.length = ds.length
      · rw [if_pos h]
        split
        · rename_i d hd
          exact .inr ⟨es, d, by unfold items; simp only [he, if_pos h], hd, rfl⟩
        · exact .inl rfl
      · left
        rw [if_neg h]
    · exact .inl rfl
theorem psf_for {tg iter : Expr} {body : List Stmt} {it : FI} {ws : List Nat} {Gt : FG} (hp : PassesOwn (model X.prog X.w) X.A X.env X.xe) (hc : X.calm = true) (hi : PiF X U tg iter it) (hg : PgF X U tg ws Gt) (hb : PssF X U body F)
    (hs : ∀ x, foldedSetIterable iter X.env x = pure x := by intro _; rfl) : PsF X U (.For tg iter body [] pos) (sFor it Gt F) := by
  obtain ⟨wi, p1, q1⟩ := hi
  obtain ⟨t2, p2, q2⟩ := hg
  obtain ⟨t3, p3, q3⟩ := hb
  refine ⟨_, ps_for hp hc p1 p2 p3 hs, fun Y S H σ ρ En g0 rs h => q1 Y S H σ ρ _ g0 rs ((Pst.bind h).imp fun p S1 Y1 H1 e1 g1 h1 J wk => ?_)⟩
  obtain ⟨ds, w⟩ := p
  have h2 : Pst (kwX X U) U Y1 H1 (EndsOk (kwX X U) En) (loopC Gt F ds w 0 ρ S1) := by
    cases w with
    | none => exact h1
    | some n => exact h1
  refine ⟨fun i m σ' H' => ∃ Y' S' ρ', m = ds.length - i ∧ i ≤ ds.length ∧ Ext Y1 H1 Y' H' ∧ Good (kwX X U) Y' S' H' ∧ RepS (kwX X U) Y' H' ρ' σ' ∧ Pst (kwX X U) U Y' H' (EndsOk (kwX X U) En) (loopC Gt F ds w i ρ' S'), ?_, ?_⟩
  · exact ⟨_, Y1, S1, ρ, rfl, Nat.zero_le _, Ext.refl, g1, rs.mono e1, h2⟩
  · rintro i m σ' H' ⟨Y', S', ρ', rfl, hi', eX, gX, rX, hP⟩
    by_cases hlt : i < ds.length
    · rcases loopC_step (g := Gt) (body := F) (w := w) (ρ := ρ') (S := S') hlt with z | ⟨es, d, hes, hd, z⟩
      · rw [z] at hP; exact hP.elim
      · rw [z] at hP
        have hes' := items_len hes
        refine .inr ⟨wk.go i Y' S' H' es eX gX hes (by omega), fun σ'' H'' => ∃ m', m' < ds.length - i ∧ ∃ Y' S' ρ', m' = ds.length - (i + 1) ∧ i + 1 ≤ ds.length ∧ Ext Y1 H1 Y' H'' ∧ Good (kwX X U) Y' S' H'' ∧ RepS (kwX X U) Y' H'' ρ' σ'' ∧
          Pst (kwX X U) U Y' H'' (EndsOk (kwX X U) En) (loopC Gt F ds w (i + 1) ρ' S'), fun _ _ q => q, fun x H2 hy => ?_⟩
        obtain ⟨d', hd', e2, g2, k2, r2⟩ := wk.yld i Y' S' H' es x H2 eX gX hes (by omega) hy
        rw [hd] at hd'
        cases hd'
        have hP2 := hP.mono e2
        unfold stepL at hP2
        refine q2 Y' S' H2 σ' ρ' d x _ g2 (rX.mono e2) r2 ((Pst.bind hP2).imp fun ρ3 S3 Y3 H3 e3 g3 h3 σ3 rs3 _ _ => ?_)
        refine q3 Y3 S3 H3 σ3 ρ3 _ g3 rs3 ((Pst.bind h3).imp fun c S4 Y4 H4 e4 g4 h4 => ?_)
        have eX4 : Ext Y1 H1 Y4 H4 := ((eX.trans e2).trans e3).trans e4
        cases c with
        | next ρ4 => exact fun σ4 rs4 => ⟨_, by omega, Y4, S4, ρ4, rfl, hlt, eX4, g4, rs4, h4⟩
        | cnt ρ4 => exact fun σ4 rs4 => ⟨_, by omega, Y4, S4, ρ4, rfl, hlt, eX4, g4, rs4, h4⟩
        | brk ρ4 => exact fun σ4 rs4 => h4.now g4 σ4 rs4
        | ret d4 => exact fun v rv => h4.now g4 v rv
    · have e : i = ds.length := by omega
      subst e
      left
      rcases loopC_end (g := Gt) (body := F) (ds := ds) (w := w) (ρ := ρ') (S := S') with z | ⟨⟨es, hes⟩, z⟩
      · rw [z] at hP; exact hP.elim
      · rw [z] at hP
        have hs := wk.stop Y' S' H' es eX gX hes
        rw [items_len hes] at hs
        exact ⟨hs, hP.now gX σ' rX⟩
/-- while, with a bound on its turns -/
theorem psf_while {c : Expr} {T : FT} {body : List Stmt} (n : Env → Store → Nat) (hp : PassesOwn (model X.prog X.w) X.A X.env X.xe) (hc : PtF X U c T) (hb : PssF X U body F) : PsF X U (.While c body [] pos) (sWhile n T F) := by
  obtain ⟨t1, p1, q1⟩ := hc
  obtain ⟨t2, p2, q2⟩ := hb
  refine ⟨_, ps_while hp p1 p2, fun Y S H σ ρ En g0 rs h => ?_⟩
  refine ⟨fun m σ' H' => ∃ Y' S' ρ', Good (kwX X U) Y' S' H' ∧ RepS (kwX X U) Y' H' ρ' σ' ∧ Pst (kwX X U) U Y' H' (EndsOk (kwX X U) En) (whileN T F m ρ' S'), ⟨_, Y, S, ρ, g0, rs, h⟩, ?_⟩
  rintro m σ' H' ⟨Y', S', ρ', gX, rX, hP⟩
  cases m with
  | zero => exact hP.elim
  | succ m =>
    unfold whileN at hP
    refine q1 Y' S' H' σ' ρ' _ gX rX ((Pst.bind hP).imp fun k S1 Y1 H1 e1 g1 h1 => ?_)
    cases k with
    | false =>
      rw [if_neg Bool.false_ne_true] at h1 ⊢
      exact h1.now g1 σ' (rX.mono e1)
    | true =>
      rw [if_pos rfl] at h1 ⊢
      refine ⟨fun σ'' H'' => ∃ m', m' < m + 1 ∧ ∃ Y' S' ρ', Good (kwX X U) Y' S' H'' ∧ RepS (kwX X U) Y' H'' ρ' σ'' ∧ Pst (kwX X U) U Y' H'' (EndsOk (kwX X U) En) (whileN T F m' ρ' S'), fun _ _ q => q, ?_⟩
      refine q2 Y1 S1 H1 σ' ρ' _ g1 (rX.mono e1) ((Pst.bind h1).imp fun c S2 Y2 H2 e2 g2 h2 => ?_)
      cases c with
      | next ρ4 => exact fun σ4 rs4 => ⟨m, Nat.lt_succ_self _, Y2, S2, ρ4, g2, rs4, h2⟩
      | cnt ρ4 => exact fun σ4 rs4 => ⟨m, Nat.lt_succ_self _, Y2, S2, ρ4, g2, rs4, h2⟩
      | brk ρ4 => exact fun σ4 rs4 => h2.now g2 σ4 rs4
      | ret d4 => exact fun v rv => h2.now g2 v rv

/-! ### raise -/
/-- what the written part says of an own exception class -/
structure ExcC (K : PySem.W.Frag) (mg : PySem.Str → Option Value) (x : PySem.Str) (C : Addr) : Prop where
  ex : PySem.W.excIn K C [.type "ValueError", .type "Exception", .type "BaseException", .type "object"] "ValueError.__new__" = true
  mg : mg x = some (.ref C)
  kp : PySem.W.keepIn K (.ref C) = true
  sb : PySem.W.subIn K (.ref C) (.type "BaseException") = some true
  ty : PySem.W.typeIn K (.ref C) = some (.type "type")
theorem psf_raise {x m : PySem.Str} {c j : Nat} {p p2 p3 : Pos} (T : ExcC X.K X.mg x (U.cl c)) (hc : X.calm = true) (tk : Takes X (fun c d _ H => U.E c d H)) (hg : Gl X x := by rfl) (hd : (x == ("__debug__" : PySem.Str)) = false := by decide) :
    PsF X U (.Raise (some (.Call (.Name x p) [.Constant (.str m) j p2] [] p3)) none pos) (sRaise c) := by
  refine ⟨_, ps_raise hc tk (pmk_own PySem.F.excBase_ValueError T.ex T.mg T.kp (raises_own T.sb T.ty) hg hd), fun Y S H σ ρ En g rs h => ?_⟩
  exact h Y H Ext.refl g
end

/-! ### defs -/
/-- what the rules want of a context -/
structure CxOk (X : Cx) (U : Wh) (k : Nat) : Prop where
  calm : X.calm = true
  nd : X.N.Nodup
  room : Room k X.A
  pass : Passes (L2.CX X.prog X.w) X U.E
  own : PassesOwn (model X.prog X.w) X.A X.env X.xe
  take : Takes X (fun c d _ H => U.E c d H)
theorem CxOk.hu {X : Cx} {U : Wh} {k : Nat} (C : CxOk X U k) : X.A.units + 64 < cLine := C.room.units
theorem CxOk.blk {X : Cx} {U : Wh} {k : Nat} (C : CxOk X U k) {s : Shared} {H : Hp} {scope : Scope} {env : PySem.Env} {fp : List Addr} : CxOk (X.blk s H scope env fp) U.no k :=
  ⟨C.calm, C.nd, C.room, passL, PassesOwn.never, takes0⟩

/-- a def's promise -/
def spF (K : KW) (cl : Cl) (n : Nat) (F : FF) : Sp := fun vs H Q E => vs.length = n ∧ ∃ Y S ds, Good K Y S H ∧ RepL K Y H ds vs ∧ Pst K ⟨E, cl⟩ Y H (PD K Q) (F ds S)
structure FnD (P : Program) (w : World) (K : PySem.W.Frag) (mg : PySem.Str → Option Value) (base : Heap) (cl : Cl) (x : PySem.Str) (n k : Nat) (F : FF) : Prop where
  ex : ∃ (a : Addr) (fd : FuncData) (ps : List PySem.Str), ps.length = n ∧ FnOk P w K mg base (L2.CX P w) k a fd ps (spF ⟨P, w, K, cl⟩ cl n F) ∧ mg x = some (.ref a) ∧ PySem.W.keepIn K (.ref a) = true ∧ Binds K fd ps []
theorem FnD.mono {P : Program} {w : World} {K : PySem.W.Frag} {mg : PySem.Str → Option Value} {base : Heap} {cl : Cl} {x : PySem.Str} {n j k : Nat} {F : FF} (h : FnD P w K mg base cl x n j F) (hk : j ≤ k) : FnD P w K mg base cl x n k F := by
  obtain ⟨a, fd, ps, h1, h2, h3⟩ := h
  exact ⟨a, fd, ps, h1, h2.mono hk, h3⟩
theorem fnd_un {P : Program} {w : World} {K : PySem.W.Frag} {mg : PySem.Str → Option Value} {base : Heap} {cl : Cl} {x : PySem.Str} {a : Addr} {fd : FuncData} {ps : List PySem.Str} (hm : mg x = some (.ref a)) (hk : PySem.W.keepIn K (.ref a) = true) (hb : Binds K fd ps []) :
    FnD P w K mg base cl x ps.length 0 fUn := by
  have no : ∀ vs H Q E, ¬ spF ⟨P, w, K, cl⟩ cl ps.length fUn vs H Q E := fun vs H Q E ⟨_, _, _, _, _, _, h⟩ => h.elim
  exact ⟨a, fd, ps, rfl, ⟨fun vs H Q E h => absurd h (no vs H Q E), fun A outer s H args us vs Q E _ _ _ _ h => absurd h (no vs H Q E)⟩, hm, hk, hb⟩
section
variable {X : Cx} {U : Wh} {k : Nat} {e : Expr} {es : List Expr} {Fs : List FE} {pos : Pos}
/-- f(e, ..) -/
theorem pf_call {x : PySem.Str} {n j : Nat} {F : FF} {p : Pos} (C : CxOk X U k) (h : FnD X.prog X.w X.K X.mg X.base U.cl x n j F) (hj : j ≤ k) (ha : PaF X U (e :: es) Fs) (hl : Fs.length = n := by rfl) (hg : Gl X x := by rfl) (hdb : (x == ("__debug__" : PySem.Str)) = false := by decide)
    (he : starEach (e :: es) X.env = (false, eval e X.env) :: starEach es X.env := by rfl) (hpl : (backTo pos (starEach es X.env)).any (·.1) = false := by rfl) : PeF X U (.Call (.Name x p) (e :: es) [] pos) (dCall F Fs) := by
  obtain ⟨a, fd, ps, hn, hF, hm, hk, hb⟩ := h
  obtain ⟨ta, p1, q1⟩ := ha
  refine ⟨_, pe_call (E := U.E) hF (C.room.mono hj) hg hm hk hb .nil C.pass p1 hdb he hpl, fun Y S H σ ρ Q g0 rs h => q1 Y S H σ ρ _ g0 rs ?_⟩
  unfold dCall at h
  cases ev : evalAll Fs ρ S with
  | un => rw [ev] at h; exact h
  | ex c T => rw [ev] at h; exact h
  | ok ds T =>
    rw [ev] at h
    intro Y1 H1 e1 g1 vs rv
    have hz := evalAll_len ev
    rw [List.append_nil]
    exact ⟨by rw [← rv.len, hz, hl], Y1, T, ds, g1, rv, Pst.mono (r := F ds T) h e1⟩
theorem pf_call0 {x : PySem.Str} {j : Nat} {F : FF} {p : Pos} (C : CxOk X U k) (h : FnD X.prog X.w X.K X.mg X.base U.cl x 0 j F) (hj : j ≤ k) (hg : Gl X x := by rfl) (hdb : (x == ("__debug__" : PySem.Str)) = false := by decide) :
    PeF X U (.Call (.Name x p) [] [] pos) (dCall F []) := by
  obtain ⟨a, fd, ps, hn, hF, hm, hk, hb⟩ := h
  refine ⟨_, pe_call0 (E := U.E) hF (C.room.mono hj) hg hm hk hb .nil C.pass hdb, fun Y S H σ ρ Q g0 rs h => ?_⟩
  exact ⟨rfl, Y, S, [], g0, .nil, h⟩
end
theorem repS_start {K : KW} {Y : Lay} {H : Hp} {ds : List D} {vs : List V} {N : List PySem.Str} (r : RepL K Y H ds vs) : RepS K Y H (startE N.length ds) (L2.start N vs) := by
  unfold startE L2.start
  rw [r.len]
  refine ⟨by simp [r.len], fun i d h => ?_⟩
  by_cases hi : i < ds.length
  · rw [List.getElem?_append_left (by simpa using hi), List.getElem?_map] at h
    cases e : ds[i]? with
    | none => rw [e] at h; cases h
    | some d' =>
      rw [e] at h
      cases h
      obtain ⟨v, h1, h2⟩ := r.get e
      refine ⟨v, ?_, h2⟩
      rw [List.getElem?_append_left (by rw [List.length_map, ← r.len]; exact hi), List.getElem?_map, h1]
      rfl
  · rw [List.getElem?_append_right (by simpa using hi), List.getElem?_replicate] at h
    split at h <;> cases h
section
variable {P : Program} {w : World} {K : PySem.W.Frag} {mg : PySem.Str → Option Value} {base : Heap} {cl : Cl}
/-- a def, by its body -/
theorem fnok_mk {x qual : PySem.Str} {st : Stmt} {f : Addr} {fd : FuncData} {N ps : List PySem.Str} {k : Nat} {cl : Cl} {F : FS} (Fn : Fun K x qual st f fd) (S : FnScope N ps (defScope st))
    (body : ∀ (cdv : Value) (A : Around) (outer : List PySem.Env) (s : Shared) (H : Hp) (E : XK), CxOk (cxOf (L2.CX P w) P w K mg base N qual (defScope st) f cdv A outer s H E) ⟨E, cl⟩ k →
      PssF (cxOf (L2.CX P w) P w K mg base N qual (defScope st) f cdv A outer s H E) ⟨E, cl⟩ (defBody st) F) : FnOk P w K mg base (L2.CX P w) (k + 1) f fd ps (spF ⟨P, w, K, cl⟩ cl ps.length (runDef N.length F)) := by
  refine Fn.okX S (fun vs H Q E h => h.1) (fun cdv A outer s H vs Q E hr h => ?_)
  obtain ⟨hl, Y, T, ds, g, r, hP⟩ := h
  have C : CxOk (cxOf (L2.CX P w) P w K mg base N qual (defScope st) f cdv A outer s H E) ⟨E, cl⟩ k :=
    ⟨rfl, S.nd, hr, passes_call (W := fun c d _ H => E c d H) (takes_of rfl rfl rfl rfl) fun _ _ _ _ h => h, passes_of rfl, takes_of rfl rfl rfl rfl⟩
  obtain ⟨t, p, q⟩ := body cdv A outer s H E C
  refine ⟨t, p, q Y T H (L2.start N vs) (startE N.length ds) _ g (repS_start r) ?_⟩
  unfold runDef at hP
  refine (Pst.bind hP).imp fun c S1 Y1 H1 e1 g1 h1 => ?_
  cases c with
  | next ρ1 => exact fun σ rs => h1.now g1 .non .non
  | ret d => exact fun v rv => h1.now g1 v rv
  | brk ρ1 => exact h1.elim
  | cnt ρ1 => exact h1.elim
theorem fnd_mk {x qual : PySem.Str} {st : Stmt} {f : Addr} {fd : FuncData} {N ps : List PySem.Str} {k : Nat} {cl : Cl} {F : FS} (Fn : Fun K x qual st f fd) (S : FnScope N ps (defScope st)) (hb : Binds K fd ps []) (hm : mg x = some (.ref f))
    (body : ∀ (cdv : Value) (A : Around) (outer : List PySem.Env) (s : Shared) (H : Hp) (E : XK), CxOk (cxOf (L2.CX P w) P w K mg base N qual (defScope st) f cdv A outer s H E) ⟨E, cl⟩ k →
      PssF (cxOf (L2.CX P w) P w K mg base N qual (defScope st) f cdv A outer s H E) ⟨E, cl⟩ (defBody st) F) : FnD P w K mg base cl x ps.length (k + 1) (runDef N.length F) :=
  ⟨f, fd, ps, rfl, fnok_mk Fn S body, hm, Fn.kp, hb⟩
end
end WF

set_option Elab.async false
set_option linter.all false
set_option maxRecDepth 100000
set_option maxHeartbeats 4000000
/-! # Rules7: a written dict asked at once; signs -/
namespace WF
open PySem L2 PyProof.Rows
section
variable {X : Cx} {U : Wh} {a b e : Expr} {Fa Fb Fe : FE} {pos : Pos}
theorem pf_neg (ha : PeF X U a Fa) : PeF X U (.UnaryOp .USub a pos) (dUn gNeg Fa) := by
  obtain ⟨ta, p, q⟩ := ha
  refine ⟨_, pe_un un_neg p, fun Y S H σ ρ Q g0 rs h => q Y S H σ ρ _ g0 rs ((Pst.bind h).imp fun d S1 Y1 H1 e1 g1 h1 x rx => ?_)⟩
  unfold gNeg at h1
  split at h1
  · cases rx
    exact ⟨_, rfl, h1.val g1 (.int _)⟩
  · exact h1.elim

/-- a list and a list together, to be changed -/
theorem pf_catNew (ha : PeF X U a Fa) (hb : PeF X U b Fb) : PeF X U (.BinOp a .Add b pos) (dCatNew Fa Fb) := by
  obtain ⟨ta, p1, q1⟩ := ha
  obtain ⟨tb, p2, q2⟩ := hb
  refine ⟨_, pe_op (op_catL (U := U)) p1 p2, fun Y S H σ ρ Q g0 rs h => q1 Y S H σ ρ _ g0 rs ((Pst.bind h).imp fun d1 S1 Y1 H1 e1 g1 h1 x rx => q2 Y1 S1 H1 σ ρ _ g1 (rs.mono e1) ((Pst.bind h1).imp fun d2 S2 Y2 H2 e2 g2 h2 y ry => ?_))⟩
  split at h2
  · rename_i l1 l2 q1 q2
    obtain ⟨hc, h2⟩ := ite_ok h2
    obtain ⟨p1, x1, rfl, s1, r1⟩ := lstOf_read g2 (rx.mono e2) q1
    obtain ⟨p2, x2, rfl, s2, r2⟩ := lstOf_read g2 ry q2
    have l1 := r1.len
    have l2 := r2.len
    refine ⟨_, _, _, _, rfl, rfl, s1, s2, by rw [← lim_eq, ← l1, ← l2]; exact hc, fun p hp => ?_⟩
    have hx : Ext Y2 H2 (Y2.add p) (upd H2 p (.lst (x1 ++ x2))) := Ext.add hp
    refine h2 (Y2.add p) _ hx (g2.add hp ⟨_, upd_same, (r1.append r2).mono hx⟩) _ (Rep.loc ?_)
    show (Y2.loc ++ [p])[S2.length]? = some p
    rw [← g2.len, List.getElem?_append_right (Nat.le_refl _)]
    simp
  · exact h2.elim

/-! ### {k: v, ..}[e] -/
abbrev ksV (ks : List Cs) (vs : List V) : List (V × V) := (ks.map fun k => V.str (sv k)).zip vs
abbrev ksK (ks : List Cs) (vs : List V) : List (Key × V) := (ks.map fun k => (Sum.inr (sv k) : Key)).zip vs
structure PpF (X : Cx) (U : Wh) (pos : Pos) (keys : List (Option Expr)) (vals : List Expr) (ks : List Cs) (Fs : List FE) : Prop where
  ex : ∃ trs, PPs X pos keys vals trs ∧ ∀ Y S H σ ρ Q, Good (kwX X U) Y S H → RepS (kwX X U) Y H ρ σ → Pst (kwX X U) U Y H (fun ds _ Y' H' => ∀ vs, RepL (kwX X U) Y' H' ds vs → Q (ksV ks vs) H') (evalAll Fs ρ S) → tPairs trs σ H Q
theorem pp_nil : PpF X U pos [] [] [] [] := ⟨_, pps_nil, fun Y S H σ ρ Q g rs h => h.now g [] .nil⟩
theorem pp_cons {x : PySem.Str} {k : Cs} {j : Nat} {p : Pos} {keys : List (Option Expr)} {vals : List Expr} {ks : List Cs} {Fs : List FE} (hx : x = sv k) (ha : PeF X U a Fa) (hr : PpF X U pos keys vals ks Fs) :
    PpF X U pos (some (.Constant (.str x) j p) :: keys) (a :: vals) (k :: ks) (Fa :: Fs) := by
  obtain ⟨ta, p1, q1⟩ := ha
  obtain ⟨trs, p2, q2⟩ := hr
  refine ⟨_, pps_cons pe_str p1 p2, fun Y S H σ ρ Q g rs h => ?_⟩
  refine q1 Y S H σ ρ _ g rs ((Pst.bind h).imp fun d S1 Y1 H1 e1 g1 h1 v rv => q2 Y1 S1 H1 σ ρ _ g1 (rs.mono e1) ((Pst.bind h1).imp fun ds S2 Y2 H2 e2 g2 h2 vs rvs => ?_))
  have h3 := h2.now g2 (v :: vs) (.cons (rv.mono e2) rvs)
  rw [hx]
  exact h3
theorem valV_mergeK (j : Key) : ∀ (more acc : List (Key × V)), (more.map (·.1)).Nodup → valV (mergeK acc more) j = match valV more j with
    | some v => some v
    | none => valV acc j
  | [], acc, _ => rfl
  | p :: r, acc, nd => by
    have nd' : p.1 ∉ r.map (·.1) ∧ (r.map (·.1)).Nodup := by simpa using nd
    show valV (mergeK (putK acc p.1 p.2) r) j = _
    rw [valV_mergeK j r _ nd'.2, valV_put]
    by_cases e : p.1 = j
    · rw [valV_pos e]
      have : valV r j = none := by
        cases q : valV r j with
        | none => rfl
        | some v =>
          unfold valV at q
          cases f : r.find? fun kv => decide (kv.1 = j) with
          | none => rw [f] at q; cases q
          | some kv =>
            have hm := List.mem_of_find?_eq_some f
            have hk := List.find?_some f
            have hk' : kv.1 = j := of_decide_eq_true hk
            exact absurd (List.mem_map.mpr ⟨kv, hm, hk'.trans e.symm⟩) nd'.1
      rw [this]
      exact if_pos e.symm
    · rw [valV_neg e]
      cases valV r j with
      | some v => rfl
      | none => exact if_neg fun z => e z.symm
theorem pick_rep {K : KW} {Y : Lay} {H : Hp} {s : Cs} {d : D} : ∀ {ks : List Cs} {ds : List D} {vs : List V}, RepL K Y H ds vs → (ks.zip ds).lookup s = some d → ∃ v, valV (ksK ks vs) (Sum.inr (sv s)) = some v ∧ Rep K Y H d v
  | [], _, _, _, h => by simp at h
  | k :: ks, _, _, .nil, h => by simp at h
  | k :: ks, _, _, .cons (d := d0) (ds := ds) (v := v0) (vs := vs) r t, h => by
    rw [List.zip_cons_cons, List.lookup_cons] at h
    by_cases e : s = k
    · subst e
      simp only [beq_self_eq_true] at h
      cases h
      exact ⟨v0, valV_pos rfl, r⟩
    · have e' : (s == k) = false := by simpa using e
      rw [e'] at h
      obtain ⟨v, h1, h2⟩ := pick_rep t h
      refine ⟨v, ?_, h2⟩
      show valV (((Sum.inr (sv k) : Key), v0) :: ksK ks vs) _ = _
      rw [valV_neg fun z => e (sv_inj.mp (Sum.inr.inj z)).symm]
      exact h1
theorem nodup_sv : ∀ {ks : List Cs}, ks.Nodup → (ks.map fun k => (Sum.inr (sv k) : Key)).Nodup
  | [], _ => List.nodup_nil
  | k :: ks, h => by
    rw [List.nodup_cons] at h
    rw [List.map_cons, List.nodup_cons]
    refine ⟨fun z => ?_, nodup_sv h.2⟩
    obtain ⟨x, hx, e⟩ := List.mem_map.mp z
    exact h.1 (sv_inj.mp (Sum.inr.inj e) ▸ hx)
theorem ksK_keys {ks : List Cs} (nd : ks.Nodup) (vs : List V) (hl : ks.length = vs.length) : ((ksK ks vs).map (·.1)).Nodup := by
  unfold ksK
  rw [List.map_fst_zip (by simp [hl])]
  exact nodup_sv nd
theorem ksV_eq : ∀ (ks : List Cs) (vs : List V), ksV ks vs = (ksK ks vs).map fun kv => (kV kv.1, kv.2)
  | [], _ => rfl
  | _ :: _, [] => rfl
  | k :: ks, v :: vs => congrArg ((V.str (sv k), v) :: ·) (ksV_eq ks vs)
theorem pf_pick {keys : List (Option Expr)} {vals : List Expr} {ks : List Cs} {Fs : List FE} {p1 : Pos} {k : Nat} (C : CxOk X U k) (h : PpF X U p1 keys vals ks Fs) (hi : PeF X U e Fe) (nd : ks.Nodup := by decide)
    (hkl : ks.length = Fs.length := by rfl) (h15 : Fs.length ≤ 15 := by decide)
    (hall : keys.all (·.isSome) = true := by rfl) (hl : keys.length = vals.length := by rfl) (h0 : keys ≠ [] := by exact fun z => nomatch z) (hk15 : keys.length ≤ 15 := by decide) (hs : NoSl e := by exact fun _ _ => rfl) :
    PeF X U (.Subscript (.Dict keys vals p1) e pos) (dPick ks Fs Fe) := by
  obtain ⟨trs, p2, q2⟩ := h
  obtain ⟨te, p3, q3⟩ := hi
  refine ⟨_, pe_dget (hu_of C.room) (pe_disp p2 hall hl h0 hk15) p3 hs, fun Y S H σ ρ Q g rs h p hp => ?_⟩
  unfold dPick at h
  have e0 : Ext Y H (Y.hide p) (upd H p (.dK [])) := ext_hide hp
  have hpl : p ∉ Y.loc := fun z => g.there p (Y.sub p z) hp
  refine q2 (Y.hide p) S _ σ ρ _ (good_hide g hp) (rs.mono e0) ?_
  cases ev : evalAll Fs ρ S with
  | un => rw [ev] at h; exact h
  | ex c T => rw [ev] at h; exact Pst.mono (r := (.ex c T : Res (List D))) (Φ := fun _ _ _ _ => True) h e0
  | ok ds S1 =>
    rw [ev] at h
    simp only [Res.ok_bind] at h
    intro Y1 H1 e1 g1 vs rv
    have hH1 : H1 p = some (.dK []) := e1.keep p _ upd_same hpl (fun _ z => nomatch z)
    have hpl1 : p ∉ Y1.loc := fun z => by
      rcases e1.newl p z with q | q
      · exact hpl q
      · rw [upd_same] at q; cases q
    have hlen : ks.length = vs.length := by rw [← rv.len, evalAll_len ev, hkl]
    refine ⟨hH1, ksK ks vs, ksV_eq ks vs, ?_, ?_⟩
    · unfold ksK
      rw [List.length_zip, List.length_map]
      omega
    · have nt : ∀ xs, ¬ Rd H1 p (.tup xs) := fun xs q => by
        rcases q with q | ⟨o, q⟩
        · rw [hH1] at q; cases q
        · rw [hH1] at q; cases q
      have vp : Y1.vol p := e1.vol p (.inr rfl)
      have eV : ExtV Y1 H1 Y1 (upd H1 p (.dK (mergeK [] (ksK ks vs)))) := extV_upd vp nt
      have g2 := good_upd (o := .dK (mergeK [] (ksK ks vs))) g1 vp hpl1 nt
      have eX : Ext Y H Y1 (upd H1 p (.dK (mergeK [] (ksK ks vs)))) := ext_upd (e0.trans e1) hp
      refine q3 Y1 S1 _ σ ρ _ g2 (rs.mono eX) ((Pst.bind (Pst.mono h eX)).imp fun x S2 Y3 H3 e3 g3 h3 y ry => ?_)
      have hp3 : H3 p = some (.dK (mergeK [] (ksK ks vs))) := e3.keep p _ upd_same hpl1 (fun _ z => nomatch z)
      cases ry with
      | str s =>
        simp only at h3
        split at h3
        · rename_i d hd
          obtain ⟨v, hv, rd⟩ := pick_rep ((rv.monoV eV).mono e3) hd
          refine ⟨p, v, rfl, ?_, h3.val g3 rd⟩
          have e := DGet.k (k := Sum.inr (sv s)) hp3
          rw [valV_mergeK _ _ _ (ksK_keys nd vs hlen), hv] at e
          exact e
        · exact h3.elim
      | _ => exact h3.elim
end
end WF

set_option Elab.async false
set_option linter.all false
set_option maxRecDepth 100000
set_option maxHeartbeats 4000000
/-! # Rules8: enumerate over a text; is True, is False; the end of a row -/
namespace WF
open PySem L2 PyProof.Rows

/-! ### enumerate(text) -/
def ItE (x : PySem.Str) : It :=
  ⟨fun i _ => i < x.cps.size, fun i H v H' => ∃ T c, v = .ref T ∧ H T = none ∧ H' = upd H T (.tup [.int (i : Nat), .str ⟨#[c]⟩]) ∧ x.cps[i]? = some c, fun i _ => i = x.cps.size⟩
theorem turn_enumS {P : Program} {w : World} {K : PySem.W.Frag} {elts : List Expr} {kk : Nat} {tpos : Pos} (x : PySem.Str) (t : Tok) (e it : Addr) (hne : e ≠ it) :
    Turn P w K (.Tuple elts kk tpos) (ItE x) [e, it] e (fun i h => (∃ old, IsEnum h e it (0 + (i : Int)) old) ∧ h.IsStrIter it (strIterType x) x t i) where
  mem := by simp
  obj := fun i h st b hb => by
    obtain ⟨⟨old, he⟩, ⟨o, ho, hc, hd⟩⟩ := st
    have e' : b = e ∨ b = it := by simpa using hb
    rcases e' with z | z
    · rw [z]; exact ⟨_, he, fun v q => nomatch q⟩
    · rw [z]; exact ⟨o, ho, fun v q => by rw [hd] at q; cases q⟩
  keep := fun i h h' st k => by
    obtain ⟨⟨old, he⟩, ⟨o, ho, r⟩⟩ := st
    exact ⟨⟨old, k e (by simp) _ he⟩, ⟨o, k it (by simp) o ho, r⟩⟩
  item := by
    intro X hP hw hK hc i pins s σ H E I hf st hg
    subst hP hw hK
    have D := Draws.text (prog := X.prog) (w := X.w) (A := X.A.in1) (show X.A.in1.handled = none from I.ok.hd hc) it x t
    have W := WalksT.enumFrom 0 D e hne (by simp [hne]) (by simp)
    refine W.item i s _ _ hg st fun T vals h' tk hv hT ht hm hk => ?_
    obtain ⟨tk2, u, ⟨c, u2, hcx, rfl⟩, rfl⟩ := hv
    have hap := W.apart i T h' hm
    refine ⟨_, rfl, W.go elts kk tpos i T { s with heap := h', toks := tk } _ _ hm fun h'' st' hk' => ?_⟩
    have ht2 : h''.IsTuple T #[.int (0 + (i : Int)) tk2, .str ⟨#[c]⟩ u2] := ht.at fun o q => hk' T o hap q
    have e0 : (0 : Int) + (i : Int) = ((i : Nat) : Int) := by omega
    have new : ObjOk X.prog X.w (upd H T (.tup [.int (i : Nat), .str ⟨#[c]⟩])) h'' T (.tup [.int (i : Nat), .str ⟨#[c]⟩]) := by
      rw [e0] at ht2
      exact ⟨by show 2 ≤ sizeLine; decide, [.int i tk2, .str ⟨#[c]⟩ u2], .cons ⟨_, rfl⟩ (.cons ⟨_, rfl⟩ .nil), ht2⟩
    have hle : e < s.heap.objs.size ∧ it < s.heap.objs.size := by
      obtain ⟨⟨old, he⟩, ⟨o, ho, _⟩⟩ := st
      exact ⟨Heap.lt_size he, Heap.lt_size ho⟩
    have I1 : Inv X pins σ (upd H T (.tup [.int (i : Nat), .str ⟨#[c]⟩])) { s with heap := h'', toks := tk } :=
      I.turnedNew (ch := [e, it]) (fun b ob hb q => hk' b ob hb (hk b ob hb q)) hf hT new
    refine ⟨.ref T, _, I1, rfl, ⟨T, c, rfl, I.hok.fresh hT, rfl, hcx⟩, st', fun b hb => ?_⟩
    have hb' : b < s.heap.objs.size := by
      have e' : b = e ∨ b = it := by simpa using hb
      rcases e' with z | z
      · rw [z]; exact hle.1
      · rw [z]; exact hle.2
    rw [upd_ne (Nat.ne_of_lt (Nat.lt_of_lt_of_le hb' hT))]
    exact (hf b hb).1
  done := by
    intro X hP hw hK hc i pins s σ H E I hf st hg
    subst hP hw hK
    have D := Draws.text (prog := X.prog) (w := X.w) (A := X.A.in1) (show X.A.in1.handled = none from I.ok.hd hc) it x t
    have W := WalksT.enumFrom 0 D e hne (by simp [hne]) (by simp)
    have hi : i = x.cps.size := hg
    subst hi
    exact W.done s _ _ st fun h' tk hk => ⟨rfl, I.turnedL (ch := [e, it]) (t' := tk) hk hf⟩
  self := fun A i s Q E st h => let ⟨⟨_, he⟩, _⟩ := st; wpAny_pyIter_enum he h

def iEnumS (ta : TA) : TI := fun σ H R => ta σ H fun vs H1 => ∃ x, vs = [.str x] ∧ R (ItE x) H1
theorem pi_enumStr {X : Cx} {e : Expr} {ta : TA} {p pos tpos : Pos} {elts : List Expr} {kk : Nat} (hg : Gl X "enumerate") (hm : X.mg "enumerate" = none) (ha : PA X [e] ta) (hs : starEach [e] X.env = [(false, eval e X.env)] := by rfl) :
    PI X (.Tuple elts kk tpos) (.Call (.Name "enumerate" p) [e] [] pos) (iEnumS ta) := by
  refine ⟨fun pins s σ H R I h => ?_⟩
  refine Call_ (ld_blt I hg hm boot_enumerate (PyProof.Rows.callWith_type1 (thn (ha.run pos pins s σ H _ I h) fun us s1 ⟨vs, H1, I1, r1, q1⟩ => ?_) hs rfl))
  obtain ⟨x, ex, q⟩ := q1
  subst ex
  cases r1 with
  | cons r rr =>
    cases rr
    obtain ⟨t, rfl⟩ := r
    refine call_enumerate_str fun h' he hit hsz hk => wpAny_pyIter_enum he ?_
    have I2 : Inv X pins σ H1 { s1 with heap := h' } := I1.kept (t' := s1.toks) hk
    refine ⟨s1.heap.objs.size + 1, [s1.heap.objs.size + 1, s1.heap.objs.size], _, _, H1, rfl, I2, turn_enumS x t (s1.heap.objs.size + 1) s1.heap.objs.size (Nat.succ_ne_self _), ⟨⟨.none, by simpa using he⟩, hit⟩, fun b hb => ?_, q⟩
    have e' : b = s1.heap.objs.size + 1 ∨ b = s1.heap.objs.size := by simpa using hb
    have hle : s1.heap.objs.size ≤ b := by
      rcases e' with z | z
      · rw [z]; exact Nat.le_add_right _ _
      · rw [z]; exact Nat.le_refl _
    exact I1.fpOk hle (I1.hok.fresh hle)
theorem enumFrom_get : ∀ (ds : List D) (k i : Nat), (enumFrom k ds)[i]? = (ds[i]?).map fun d => .tup [.int ((k + i : Nat) : Int), d]
  | [], k, i => by simp [enumFrom]
  | d :: ds, k, 0 => by simp [enumFrom]
  | d :: ds, k, i + 1 => by
    unfold enumFrom
    rw [List.getElem?_cons_succ, List.getElem?_cons_succ, enumFrom_get ds (k + 1) i]
    have : k + 1 + i = k + (i + 1) := by omega
    rw [this]
theorem enumFrom_len : ∀ (ds : List D) (k : Nat), (enumFrom k ds).length = ds.length
  | [], _ => rfl
  | d :: ds, k => by unfold enumFrom; rw [List.length_cons, List.length_cons, enumFrom_len ds]
theorem walk_enumS {K : KW} {Y : Lay} {H : Hp} {s : Cs} : Walk K (ItE (sv s)) (enumFrom 0 (signs s)) none Y H := by
  have hl : (enumFrom 0 (signs s)).length = (sv s).cps.size := by rw [enumFrom_len]; simp [signs]
  refine ⟨fun Y2 S2 H2 es e2 g2 h => ?_, fun i Y2 S2 H2 es e2 g2 h hi => ?_, fun i Y2 S2 H2 es x H3 e2 g2 h hi hy => ?_⟩
  · cases h
    exact hl
  · cases h
    show i < (sv s).cps.size
    omega
  · cases h
    obtain ⟨T, c, rfl, hT, rfl, hc⟩ := hy
    have hc' : s[i]? = some c := by simpa using hc
    refine ⟨.tup [.int (i : Nat), .str [c]], ?_, Ext.new hT, g2.new hT, fun a o q => by rw [upd_ne (ne_of_none q hT)]; exact q, Rep.newT hT (.cons (.int _) (.cons (.str [c]) .nil))⟩
    rw [enumFrom_get]
    unfold signs
    rw [List.getElem?_map, hc']
    simp
theorem pi_enumS {X : Cx} {U : Wh} {e : Expr} {F : FE} {p pos tpos : Pos} {elts : List Expr} {kk : Nat} (hc : X.calm = true) (ha : PeF X U e F) (hm : X.mg "enumerate" = none) (hg : Gl X "enumerate" := by rfl) (hs : starEach [e] X.env = [(false, eval e X.env)] := by rfl)
    (hp : starEach (e :: []) X.env = (false, eval e X.env) :: starEach [] X.env := by rfl) : PiF X U (.Tuple elts kk tpos) (.Call (.Name "enumerate" p) [e] [] pos) (iEnum F) := by
  obtain ⟨ta, p1, q1⟩ := ha
  refine ⟨_, pi_enumStr hg hm (pa_cons p1 pa_nil hp) hs, fun Y S H σ ρ R g rs h => q1 Y S H σ ρ _ g rs ((Pst.bind h).imp fun d S1 Y1 H1 e1 g1 h1 x rx => ?_)⟩
  cases rx with
  | str s =>
    obtain ⟨hz, h1⟩ := ite_ok h1
    exact ⟨_, rfl, h1.now g1 _ walk_enumS⟩
  | _ => exact h1.elim

/-! ### the end of a row -/
/-- what law(script) promises -/
def spLaw (K : PySem.W.Frag) (tab : List (Addr × PySem.Str)) : Sp := fun vs H Q _ => ∃ (a : Addr) (ns : List Int), vs = [.ref a] ∧ SqL K H a (ns.map V.int) ∧ ns.length ≤ 63 ∧ (∀ p ∈ tab, H p.1 = some (.tbl #[])) ∧ ∀ H', Q (.bl true) H'
theorem rep_ints {K : KW} {Y : Lay} {H : Hp} : ∀ ns : List Int, RepL K Y H (ns.map D.int) (ns.map V.int)
  | [] => .nil
  | n :: ns => .cons (.int n) (rep_ints ns)
/-- nothing is changed yet -/
def Lay.none : Lay := ⟨[], fun _ => False, fun _ h => nomatch h⟩
theorem good_none {K : KW} {H : Hp} (ht : ∀ p ∈ K.L.tab, H p.1 = some (.tbl #[])) : Good K Lay.none [] H := ⟨rfl, List.nodup_nil, fun _ _ _ h => by simp at h, fun _ h => h.elim, fun p hp => ⟨fun z => z, #[], ht p hp, True.intro, fun pos cv hc => by
  have z : codeAmong pos [] = some cv := hc
  simp [codeAmong] at z⟩⟩
theorem spLaw_of {P : Program} {w : World} {K : PySem.W.Frag} {cl : Cl} {F : FF} (h : ∀ ns : List Int, ns.length ≤ 63 → ∃ S, F [.lst (ns.map D.int)] [] = .ok (.bl true) S) : ∀ vs H Q E, spLaw K cl.tab vs H Q E → spF ⟨P, w, K, cl⟩ cl 1 F vs H Q E := by
  rintro vs H Q E ⟨a, ns, rfl, hS, hl, ht, q⟩
  obtain ⟨S, hF⟩ := h ns hl
  refine ⟨rfl, Lay.none, [], [.lst (ns.map D.int)], good_none ht, .cons ?_ .nil, ?_⟩
  · rcases hS with hS | hS
    · exact .lst hS (fun z => z) (rep_ints ns)
    · exact .lsk hS (rep_ints ns)
  · rw [hF]
    intro Y' H' e g v rv
    cases rv
    exact q H'
theorem walk {l : PySem.W.OpenLaw} {k : Nat} {x : PySem.Str} {q : Program} {loose : List PySem.Str} {XP : (PySem.Str → Option Value) → Heap → Prop} {YP : World → Heap → Prop} {d : DefRec} {K : Params → PySem.W.Frag} (hn : l.most = some 63) (hdf : d.params.defaults = []) (hr : Room k callerA)
    (hY : ∀ (w : World) (h : Heap), YP w h → (K w.params).In h)
    (F : ∀ (w : World) (mg : PySem.Str → Option Value) (fa : Addr) (h : Heap), (K w.params).In h → h.Ns mainGlobals mg → mg d.name = some (.ref fa) →
      ∃ fd : FuncData, (∀ (s : Shared) (u : Value), BindsTo s fd ⟨[u], []⟩ [(x, u)]) ∧ ∀ base : Heap, (K w.params).In base → base.Ns mainGlobals mg → FnOk l.prog w (K w.params) mg base (L2.CX l.prog w) k fa fd [x] (spLaw (K w.params) [])) :
    PySem.W.WalkO q loose XP YP l.row.toRowW d [] (fun f vs => PySem.call f vs) :=
  L2.walk_of (n := 63) (k := k) (x := x) (CX := fun w => L2.CX l.prog w) (sp := fun w => spLaw (K w.params) []) hn (by decide) hdf hr hY F (fun _ _ a ns hl _ hS => ⟨a, ns, rfl, hS, hl, fun p hp => by simp at hp, fun _ => rfl⟩) fun _ _ _ _ _ z => by
    obtain ⟨_, _, _, _, _, _, _, _, _, _, _, _, z⟩ := z
    exact z
/-- .. with tables of code objects -/
theorem walkT {l : PySem.W.OpenLaw} {k : Nat} {x : PySem.Str} {q : Program} {loose : List PySem.Str} {XP : (PySem.Str → Option Value) → Heap → Prop} {YP : World → Heap → Prop} {d : DefRec} {K : Params → PySem.W.Frag} (hn : l.most = some 63) (hdf : d.params.defaults = []) (hr : Room k callerA)
    (hY : ∀ (w : World) (h : Heap), YP w h → (K w.params).In h)
    (F : ∀ (w : World) (mg : PySem.Str → Option Value) (fa : Addr) (h : Heap), YP w h → (K w.params).In h → h.Ns mainGlobals mg → mg d.name = some (.ref fa) →
      ∃ (fd : FuncData) (cs : List (Addr × Addr)) (tab : List (Addr × PySem.Str)), (∀ p ∈ cs, h.get? p.2 = some { cls := .none, data := .fields #[] }) ∧ (∀ p ∈ cs, (K w.params).lookup p.2 = none) ∧ (∀ p ∈ cs, PySem.W.CodeHd h p.1 p.2) ∧ (∀ p ∈ tab, ∃ c, (c, p.1) ∈ cs) ∧
        (∀ (s : Shared) (u : Value), BindsTo s fd ⟨[u], []⟩ [(x, u)]) ∧ ∀ base : Heap, (K w.params).In base → base.Ns mainGlobals mg → (∀ p ∈ cs, LamX.TabB base mg p.1 p.2) → FnOk l.prog w (K w.params) mg base (L2.CX l.prog w) k fa fd [x] (spLaw (K w.params) tab)) :
    PySem.W.WalkO q loose XP YP l.row.toRowW d [] (fun f vs => PySem.call f vs) :=
  LamX.walk_ofTs (n := 63) (k := k) (x := x) (CX := fun w => L2.CX l.prog w) hn (by decide) hdf hr hY (fun w mg fa h y k g m => by
    obtain ⟨fd, cs, tab, h1, h2, h3, h4, h5, h6⟩ := F w mg fa h y k g m
    exact ⟨fd, cs, spLaw (K w.params) tab, h1, h2, h3, h5, fun H a ns hl _ hc hS => ⟨a, ns, rfl, hS, hl, fun p hp => let ⟨c, hm⟩ := h4 p hp; hc (c, p.1) hm, fun _ => rfl⟩, h6⟩) fun _ _ _ _ _ z => by
    obtain ⟨_, _, _, _, _, _, _, _, _, _, _, _, z⟩ := z
    exact z
end WF

set_option Elab.async false
set_option linter.all false
set_option maxRecDepth 100000
set_option maxHeartbeats 4000000
/-! # Rules9: instances, their attributes and methods; append, extend -/
namespace WF
open PySem L2 PyProof.Rows
theorem lookup_fieldsV {K : KW} {Y : Lay} {H : Hp} {f : Cs} : ∀ {fs : List (Cs × D)} {vs : List V} {d : D}, RepL K Y H (fs.map (·.2)) vs → fs.lookup f = some d → ∃ v, (fieldsV fs vs).lookup (sv f) = some v ∧ Rep K Y H d v
  | [], _, _, _, h => by cases h
  | (g, e) :: r, _, d, .cons (v := v) (vs := vs) h1 h2, h => by
    rw [List.lookup_cons] at h
    show ∃ w, List.lookup (sv f) ((sv g, v) :: fieldsV r vs) = some w ∧ _
    rw [List.lookup_cons]
    by_cases q : f = g
    · subst q
      simp only [beq_self_eq_true] at h ⊢
      cases h
      exact ⟨v, rfl, h1⟩
    · have q1 : (f == g) = false := by simpa using q
      have q2 : (sv f == sv g) = false := by
        rw [beq_eq_false_iff_ne]
        exact fun z => q (sv_inj.mp z)
      rw [q1] at h
      rw [q2]
      exact lookup_fieldsV h2 h
theorem lookup_fieldsV_none {f : Cs} : ∀ {fs : List (Cs × D)} {vs : List V}, fs.lookup f = none → (fieldsV fs vs).lookup (sv f) = none
  | [], _, _ => rfl
  | (g, e) :: r, [], _ => rfl
  | (g, e) :: r, v :: vs, h => by
    rw [List.lookup_cons] at h
    show List.lookup (sv f) ((sv g, v) :: fieldsV r vs) = none
    rw [List.lookup_cons]
    by_cases q : f = g
    · subst q
      simp at h
    · have q1 : (f == g) = false := by simpa using q
      have q2 : (sv f == sv g) = false := by
        rw [beq_eq_false_iff_ne]
        exact fun z => q (sv_inj.mp z)
      rw [q1] at h
      rw [q2]
      exact lookup_fieldsV_none h
theorem put_fieldsV {K : KW} {Y : Lay} {H : Hp} {f : Cs} {d : D} {v : V} (r : Rep K Y H d v) : ∀ {fs : List (Cs × D)} {vs : List V}, RepL K Y H (fs.map (·.2)) vs →
    ∃ ws, putF (sv f) v (fieldsV fs vs) = fieldsV (putD f d fs) ws ∧ RepL K Y H ((putD f d fs).map (·.2)) ws
  | [], _, .nil => ⟨[v], rfl, .cons r .nil⟩
  | (g, e) :: rest, _, .cons (v := x) (vs := vs) h1 h2 => by
    show ∃ ws, putF (sv f) v ((sv g, x) :: fieldsV rest vs) = _ ∧ _
    unfold putF putD
    by_cases q : g = f
    · subst q
      rw [if_pos rfl, if_pos rfl]
      exact ⟨v :: vs, rfl, .cons r h2⟩
    · rw [if_neg q, if_neg fun z => q (sv_inj.mp z)]
      obtain ⟨ws, e1, e2⟩ := put_fieldsV r h2
      exact ⟨x :: ws, by rw [e1]; rfl, .cons h1 e2⟩
theorem putD_len {f : Cs} {d : D} : ∀ fs : List (Cs × D), (putD f d fs).length ≤ fs.length + 1
  | [] => by simp [putD]
  | (g, e) :: r => by
    unfold putD
    split
    · simp
    · have := putD_len (f := f) (d := d) r
      simp only [List.length_cons]
      omega
/-- the attribute f of a class's instances -/
def FlD (K : PySem.W.Frag) (c f : Cs) : Prop := ∃ C, PySem.W.nsIn K mainGlobals (sv c) = some (some (.ref C)) ∧ Cls K C ∧ NoAttr K C (sv f)
section
variable {X : Cx} {U : Wh} {e o : Expr} {es : List Expr} {F G : FE} {Fs : List FE} {pos : Pos} {k : Nat}
theorem pf_fld {c f : Cs} {x : PySem.Str} (T : FlD X.K c f) (h : PeF X U e F) (hx : x = sv f := by decide +kernel) (hb : attributeBase e x X.env (eval e X.env) = eval e X.env := by rfl) : PeF X U (.Attribute e x pos) (dUn (gFld c f) F) := by
  obtain ⟨t, p, q⟩ := h
  obtain ⟨C, n1, n2, n3⟩ := T
  subst hx
  refine ⟨_, pe_fld p hb, fun Y S H σ ρ Q g rs h => q Y S H σ ρ _ g rs ((Pst.bind h).imp fun d S1 Y1 H1 e1 g1 h1 v rv => ?_)⟩
  unfold gFld at h1
  split at h1
  · rename_i n
    cases rv with
    | loc hl =>
      rename_i a
      split at h1
      · rename_i c' fs hS
        split at h1
        · rename_i hc
          subst hc
          split at h1
          · rename_i d' hd
            obtain ⟨C', dx, vs, m0, m1, m2⟩ := g1.at' n _ a hS hl
            obtain ⟨w, l1, l2⟩ := lookup_fieldsV m2 hd
            have : C' = C := m0.one n1
            subst this
            exact ⟨a, C', dx, _, w, rfl, m1, n2, n3, l1, h1.val g1 l2⟩
          · exact h1.elim
        · exact h1.elim
      · exact h1.elim
  · exact h1.elim
theorem Ext.inst {K : KW} {Y : Lay} {S : Store} {H : Hp} {n : Nat} {a C dx : Addr} {fs : List (PySem.Str × V)} {ob : HO} (hl : Y.loc[n]? = some a) (h : H a = some (.ins C dx fs)) : Ext Y H Y (upd H a ob) :=
  Ext.chg hl (fun zs q => by
    rcases q with q | ⟨o, q⟩
    · rw [h] at q; cases q
    · rw [h] at q; cases q) (fun od u q => by rw [h] at q; cases q) (by rw [h]; exact fun z => nomatch z)
theorem psf_fld {c f : Cs} {x : PySem.Str} {p2 : Pos} (T : FlD X.K c f) (ho : PeF X U o F) (he : PeF X U e G) (hx : x = sv f := by decide +kernel)
    (hs : swapsWith e (some (.Attribute o x p2)) pos.line X.env = pure false := by rfl) : PsF X U (.Assign [.Attribute o x p2] e pos) (sFldD c f F G) := by
  obtain ⟨to, p1, q1⟩ := ho
  obtain ⟨te, p3, q3⟩ := he
  obtain ⟨C, n1, n2, n3⟩ := T
  subst hx
  refine ⟨_, ps_fld p1 p3 hs, fun Y S H σ ρ En g rs h => q3 Y S H σ ρ _ g rs ((Pst.bind h).imp fun d S1 Y1 H1 e1 g1 h1 v rv => ?_)⟩
  refine q1 Y1 S1 H1 σ ρ _ g1 (rs.mono e1) ((Pst.bind h1).imp fun y S2 Y2 H2 e2 g2 h2 w rw_ => ?_)
  have rv2 := rv.mono e2
  have rs2 := (rs.mono e1).mono e2
  cases rw_ with
  | loc hl =>
    rename_i n a
    dsimp only at h2
    split at h2
    · rename_i c' fs hS
      obtain ⟨hc, h5⟩ := ite_ok h2
      clear h2
      obtain ⟨rfl, hlen⟩ := hc
      obtain ⟨C', dx, vs, m0, m1, m2⟩ := g2.at' n _ a hS hl
      have : C' = C := m0.one n1
      subst this
      obtain ⟨ws, w1, w2⟩ := put_fieldsV (f := f) rv2 m2
      have hfl : (fieldsV fs vs).length < 1000 := by
        unfold fieldsV
        rw [List.length_zip, List.length_map]
        omega
      refine ⟨a, C', dx, _, rfl, m1, n2, n3, hfl, ?_⟩
      have ex : Ext Y2 H2 Y2 (upd H2 a (.ins C' dx (putF (sv f) v (fieldsV fs vs)))) := Ext.inst (K := kwX X U) (S := S2) hl m1
      have gx : Good (kwX X U) Y2 (S2.set n (.inst c' (putD f d fs))) (upd H2 a (.ins C' dx (putF (sv f) v (fieldsV fs vs)))) := by
        refine Good.chg g2 hl (fun zs q => by
          rcases q with q | ⟨o, q⟩
          · rw [m1] at q; cases q
          · rw [m1] at q; cases q) (fun od u q => by rw [m1] at q; cases q) ⟨C', dx, ws, m0, ?_, w2.mono ex⟩
        rw [upd_same, w1]
      exact (h5 Y2 _ ex gx) σ (rs2.mono ex)
    · exact h2.elim
  | _ => exact h2.elim
end
/-! ### methods, makers -/
structure MtD (P : Program) (w : World) (K : PySem.W.Frag) (mg : PySem.Str → Option Value) (base : Heap) (cl : Cl) (c m : Cs) (n k : Nat) (F : FF) : Prop where
  ex : ∃ (C f : Addr) (fd : FuncData) (ps : List PySem.Str), ps.length = n ∧ FnOk P w K mg base (L2.CX P w) k f fd ps (spF ⟨P, w, K, cl⟩ cl n F) ∧ Binds K fd ps [] ∧ PySem.W.nsIn K mainGlobals (sv c) = some (some (.ref C)) ∧ Cls K C ∧ Meth K C (sv m) f
structure InD (P : Program) (w : World) (K : PySem.W.Frag) (mg : PySem.Str → Option Value) (base : Heap) (cl : Cl) (c : Cs) (n k : Nat) (F : FF) : Prop where
  ex : ∃ (C f : Addr) (fd : FuncData) (ps : List PySem.Str), ps.length = n ∧ FnOk P w K mg base (L2.CX P w) k f fd ps (spF ⟨P, w, K, cl⟩ cl n F) ∧ Binds K fd ps [] ∧ PySem.W.nsIn K mainGlobals (sv c) = some (some (.ref C)) ∧ mg (sv c) = some (.ref C) ∧ Mk K C f
theorem MtD.mono {P : Program} {w : World} {K : PySem.W.Frag} {mg : PySem.Str → Option Value} {base : Heap} {cl : Cl} {c m : Cs} {n j k : Nat} {F : FF} (h : MtD P w K mg base cl c m n j F) (hk : j ≤ k) : MtD P w K mg base cl c m n k F := by
  obtain ⟨C, f, fd, ps, h1, h2, h3⟩ := h
  exact ⟨C, f, fd, ps, h1, h2.mono hk, h3⟩
theorem mtd_un {P : Program} {w : World} {K : PySem.W.Frag} {mg : PySem.Str → Option Value} {base : Heap} {cl : Cl} {c m : Cs} {C f : Addr} {fd : FuncData} {ps : List PySem.Str} (hb : Binds K fd ps []) (h1 : PySem.W.nsIn K mainGlobals (sv c) = some (some (.ref C))) (h2 : Cls K C) (h3 : Meth K C (sv m) f) :
    MtD P w K mg base cl c m ps.length 0 fUn := by
  have no : ∀ vs H Q E, ¬ spF ⟨P, w, K, cl⟩ cl ps.length fUn vs H Q E := fun vs H Q E ⟨_, _, _, _, _, _, h⟩ => h.elim
  exact ⟨C, f, fd, ps, rfl, ⟨fun vs H Q E h => absurd h (no vs H Q E), fun A outer s H args us vs Q E _ _ _ _ h => absurd h (no vs H Q E)⟩, hb, h1, h2, h3⟩
section
variable {X : Cx} {U : Wh} {e o : Expr} {es : List Expr} {F : FE} {Fs : List FE} {pos apos : Pos} {k : Nat} {pl : Sem Bool}
theorem pf_meth {c m : Cs} {x : PySem.Str} {n j : Nat} {G : FF} (C : CxOk X U k) (h : MtD X.prog X.w X.K X.mg X.base U.cl c m n j G) (hj : j ≤ k) (ho : PeF X U o F) (ha : PaF X U (e :: es) Fs) (hn : Fs.length + 1 = n := by rfl) (hx : x = sv m := by decide +kernel)
    (hst : starEach (e :: es) X.env = (false, eval e X.env) :: starEach es X.env := by rfl) (hpl : (backTo pos (starEach es X.env)).any (·.1) = false := by rfl)
    (ht : eval (.Call (.Attribute o x apos) (e :: es) [] pos) X.env = (do
      let ov ← eval o X.env
      standAt apos.atName
      let (f, first) ← holding [ov] (getMethod ov x pl)
      callWith pos f first (backTo pos (starEach (e :: es) X.env)) (backToKw pos (keywordEach [] X.env))) := by rfl) :
    PeF X U (.Call (.Attribute o x apos) (e :: es) [] pos) (dMeth c m G F Fs) := by
  obtain ⟨K0, f, fd, ps, hps, hF, hb, n1, n2, n3⟩ := h
  obtain ⟨to, p1, q1⟩ := ho
  obtain ⟨ta, p2, q2⟩ := ha
  subst hx
  refine ⟨_, pe_meth (E := U.E) p1 n2 n3 hF (C.room.mono hj) hb .nil C.pass p2 hst hpl ht, fun Y S H σ ρ Q g rs h => q1 Y S H σ ρ _ g rs ((Pst.bind h).imp fun d S1 Y1 H1 e1 g1 h1 v rv => ?_)⟩
  cases rv with
  | loc hl =>
    rename_i i a
    dsimp only at h1
    split at h1
    · rename_i c' fs hS
      obtain ⟨hc, h5⟩ := ite_ok h1
      clear h1
      obtain ⟨rfl, hlk⟩ := hc
      obtain ⟨C', dx, vs, m0, m1, m2⟩ := g1.at' i _ a hS hl
      have : C' = K0 := m0.one n1
      subst this
      refine ⟨a, dx, _, rfl, m1, lookup_fieldsV_none hlk, ?_⟩
      refine q2 Y1 S1 H1 σ ρ _ g1 (rs.mono e1) ?_
      cases ev : evalAll Fs ρ S1 with
      | un => rw [ev] at h5; exact h5
      | ex c T => rw [ev] at h5; exact h5
      | ok ds T =>
        rw [ev] at h5
        intro Y2 H2 e2 g2 ws rv
        have hz := evalAll_len ev
        rw [List.append_nil]
        exact ⟨by rw [List.length_cons, ← rv.len, hz]; exact hn, Y2, T, .loc i :: ds, g2, .cons ((Rep.loc hl).mono e2) rv, Pst.mono (r := G (.loc i :: ds) T) h5 e2⟩
    · exact h1.elim
  | _ => exact h1.elim
theorem pf_meth0 {c m : Cs} {x : PySem.Str} {j : Nat} {G : FF} (C : CxOk X U k) (h : MtD X.prog X.w X.K X.mg X.base U.cl c m 1 j G) (hj : j ≤ k) (ho : PeF X U o F) (hx : x = sv m := by decide +kernel)
    (ht : eval (.Call (.Attribute o x apos) [] [] pos) X.env = (do
      let ov ← eval o X.env
      standAt apos.atName
      let (f, first) ← holding [ov] (getMethod ov x pl)
      callWith pos f first (backTo pos (starEach [] X.env)) (backToKw pos (keywordEach [] X.env))) := by rfl) :
    PeF X U (.Call (.Attribute o x apos) [] [] pos) (dMeth c m G F []) := by
  obtain ⟨K0, f, fd, ps, hps, hF, hb, n1, n2, n3⟩ := h
  obtain ⟨to, p1, q1⟩ := ho
  subst hx
  refine ⟨_, pe_meth0 (E := U.E) p1 n2 n3 hF (C.room.mono hj) hb .nil C.pass ht, fun Y S H σ ρ Q g rs h => q1 Y S H σ ρ _ g rs ((Pst.bind h).imp fun d S1 Y1 H1 e1 g1 h1 v rv => ?_)⟩
  cases rv with
  | loc hl =>
    rename_i i a
    dsimp only at h1
    split at h1
    · rename_i c' fs hS
      obtain ⟨hc, h5⟩ := ite_ok h1
      clear h1
      obtain ⟨rfl, hlk⟩ := hc
      obtain ⟨C', dx, vs, m0, m1, m2⟩ := g1.at' i _ a hS hl
      have : C' = K0 := m0.one n1
      subst this
      refine ⟨a, dx, _, rfl, m1, lookup_fieldsV_none hlk, ?_⟩
      exact ⟨rfl, Y1, S1, [.loc i], g1, .cons (.loc hl) .nil, h5⟩
    · exact h1.elim
  | _ => exact h1.elim
theorem make_ok {c : Cs} {n : Nat} {G : FF} {C x dx : Addr} {Y : Lay} {S : Store} {H : Hp} {ds : List D} {vs : List V} {Q : VK} (nm : Nmd (kwX X U) c C) (hn : ds.length + 1 = n) (g : Good (kwX X U) Y S H) (r : RepL (kwX X U) Y H ds vs)
    (h : Pst (kwX X U) U Y H (PD (kwX X U) Q) ((G (.loc S.length :: ds) (S ++ [.inst c []])).bind fun d S2 => match d with
      | .non => .ok (.loc S.length) S2
      | _ => .un)) (hx : H x = none) (hdx : H dx = none) (hne : dx ≠ x) :
    spF (kwX X U) U.cl n G (.ref x :: (vs ++ [])) (upd (upd H dx (.own x)) x (.ins C dx [])) (fun v H2 => v = .non ∧ Q (.ref x) H2) U.E := by
  rw [List.append_nil]
  have e1 : Ext Y H Y (upd H dx (.own x)) := Ext.new hdx
  have g1 : Good (kwX X U) Y S (upd H dx (.own x)) := g.new hdx
  have hx1 : (upd H dx (.own x)) x = none := by rw [upd_ne (Ne.symm hne)]; exact hx
  have e2 : Ext Y (upd H dx (.own x)) (Y.add x) (upd (upd H dx (.own x)) x (.ins C dx [])) := Ext.add hx1
  have g2 : Good (kwX X U) (Y.add x) (S ++ [.inst c []]) (upd (upd H dx (.own x)) x (.ins C dx [])) := g1.add hx1 ⟨C, dx, [], nm, upd_same, .nil⟩
  have hl : (Y.add x).loc[S.length]? = some x := by
    show (Y.loc ++ [x])[S.length]? = some x
    rw [← g.len]
    simp
  refine ⟨by rw [List.length_cons, ← r.len]; exact hn, Y.add x, S ++ [.inst c []], .loc S.length :: ds, g2, .cons (.loc hl) (r.mono (e1.trans e2)), ?_⟩
  refine (Pst.bind (Pst.mono h (e1.trans e2))).imp fun d S2 Y2 H2 e3 g3 h3 v rv => ?_
  cases rv with
  | non =>
    refine ⟨rfl, h3.val g3 (.loc ?_)⟩
    obtain ⟨m, em⟩ := e3.pre
    rw [em, List.getElem?_append_left (List.getElem?_eq_some_iff.mp hl).1]
    exact hl
  | _ => exact h3.elim
theorem pf_make {c : Cs} {x : PySem.Str} {p : Pos} {n j : Nat} {G : FF} (C : CxOk X U k) (h : InD X.prog X.w X.K X.mg X.base U.cl c n j G) (hj : j + 1 ≤ k) (ha : PaF X U (e :: es) Fs) (hn : Fs.length + 1 = n := by rfl) (hx : x = sv c := by decide +kernel) (hg : Gl X x := by rfl)
    (hdb : (x == ("__debug__" : PySem.Str)) = false := by decide) (he : starEach (e :: es) X.env = (false, eval e X.env) :: starEach es X.env := by rfl) (hpl : (backTo pos (starEach es X.env)).any (·.1) = false := by rfl) :
    PeF X U (.Call (.Name x p) (e :: es) [] pos) (dMake c G Fs) := by
  obtain ⟨K0, f, fd, ps, hps, hF, hb, n1, n2, n3⟩ := h
  obtain ⟨ta, p2, q2⟩ := ha
  subst hx
  refine ⟨_, pe_make (E := U.E) n3 hF (C.room.mono hj) hg n2 hb .nil C.pass p2 hdb he hpl, fun Y S H σ ρ Q g rs h => q2 Y S H σ ρ _ g rs ?_⟩
  unfold dMake at h
  cases ev : evalAll Fs ρ S with
  | un => rw [ev] at h; exact h
  | ex c T => rw [ev] at h; exact h
  | ok ds T =>
    rw [ev] at h
    intro Y1 H1 e1 g1 vs rv x dx hx hdx hne
    have hz := evalAll_len ev
    exact make_ok n1 (by rw [hz]; exact hn) g1 rv (Pst.mono h e1) hx hdx hne
theorem pf_make0 {c : Cs} {x : PySem.Str} {p : Pos} {j : Nat} {G : FF} (C : CxOk X U k) (h : InD X.prog X.w X.K X.mg X.base U.cl c 1 j G) (hj : j + 1 ≤ k) (hx : x = sv c := by decide +kernel) (hg : Gl X x := by rfl)
    (hdb : (x == ("__debug__" : PySem.Str)) = false := by decide) :
    PeF X U (.Call (.Name x p) [] [] pos) (dMake c G []) := by
  obtain ⟨K0, f, fd, ps, hps, hF, hb, n1, n2, n3⟩ := h
  subst hx
  refine ⟨_, pe_make0 (E := U.E) n3 hF (C.room.mono hj) hg n2 hb .nil C.pass hdb, fun Y S H σ ρ Q g rs h => ?_⟩
  intro x dx hx hdx hne
  exact make_ok n1 rfl g .nil h hx hdx hne
/-! ### append, extend -/
theorem pf_app {apos cpos : Pos} (ho : PeF X U o F) {Fe : FE} (he : PeF X U e Fe)
    (hbase : attributeBase o "append" X.env (eval o X.env) = eval o X.env := by rfl)
    (hfew : ((backTo cpos (starEach (e :: []) X.env)).all (fun x => !x.1) && (backToKw cpos (keywordEach [] X.env)).all (fun x => x.1.isSome)
      && decide ((e :: []).length + ([] : List Keyword).length + (if ([] : List Keyword).isEmpty then 0 else 1) < 30)) = true := by rfl)
    (hline : (apos.endLine == cpos.line) = true := by rfl) (hs : starEach (e :: []) X.env = (false, eval e X.env) :: starEach [] X.env := by rfl) (hplain : (backTo cpos (starEach [] X.env)).any (·.1) = false := by rfl) :
    PeF X U (.Call (.Attribute o "append" apos) [e] [] cpos) (dApp F Fe) := by
  obtain ⟨to, p1, q1⟩ := ho
  obtain ⟨te, p2, q2⟩ := he
  refine ⟨_, pe_bm PySem.F.plainAttrs_list PySem.F.slot_list_append PySem.F.type_list_append mt_append p1 (pa_cons p2 pa_nil hs) hbase hfew hline hs hplain, fun Y S H σ ρ Q g rs h => q1 Y S H σ ρ _ g rs ((Pst.bind h).imp fun d S1 Y1 H1 e1 g1 h1 v rv => ?_)⟩
  cases rv with
  | loc hl =>
    rename_i n a
    dsimp only at h1
    split at h1
    · rename_i ds0 hS
      obtain ⟨xs0, m1, m2⟩ := g1.at' n _ a hS hl
      refine ⟨.inl ⟨rfl, xs0, SqL.of m1⟩, q2 Y1 S1 H1 σ ρ _ g1 (rs.mono e1) ((Pst.bind h1).imp fun y S2 Y2 H2 e2 g2 h2 w rw_ => ?_)⟩
      have hl2 : Y2.loc[n]? = some a := by
        obtain ⟨m, em⟩ := e2.pre
        rw [em, List.getElem?_append_left (List.getElem?_eq_some_iff.mp hl).1]
        exact hl
      split at h2
      · rename_i ds hS2
        obtain ⟨hc, h5⟩ := ite_ok h2
        obtain ⟨xs, k1, k2⟩ := g2.at' n _ a hS2 hl2
        refine ⟨a, xs, w, rfl, rfl, k1, ?_, ?_⟩
        · rw [← k2.len]; exact hc
        · have ex : Ext Y2 H2 Y2 (upd H2 a (.lst (xs ++ [w]))) := Ext.mut g2 hl2 k1
          have gx := g2.mutL hl2 k1 (k2.append (.cons rw_ .nil))
          exact h5 Y2 _ ex gx .non .non
      · exact h2.elim
    · exact h1.elim
  | _ => exact h1.elim
end
end WF

set_option Elab.async false
set_option linter.all false
set_option maxRecDepth 100000
set_option maxHeartbeats 4000000
/-! # Rules10: dicts whose keys are (nested) tuples -/
namespace WF
open PySem L2 PyProof.Rows
mutual
theorem kb_iff : ∀ {a b : D} {x y : NestedKey}, keyOf a = some x → keyOf b = some y → (a.kb b = true ↔ x = y)
  | .non, b, x, y, ha, hb => by
    simp only [keyOf, Option.some.injEq] at ha
    subst ha
    cases b with
    | non => simp [keyOf] at hb; simp [D.kb, hb]
    | int j => simp [keyOf] at hb; subst hb; simp [D.kb]
    | str j => simp [keyOf] at hb; subst hb; simp [D.kb]
    | tup es => simp [keyOf] at hb; obtain ⟨ks, _, rfl⟩ := hb; simp [D.kb]
    | _ => simp [keyOf] at hb
  | .int i, b, x, y, ha, hb => by
    simp only [keyOf, Option.some.injEq] at ha
    subst ha
    cases b with
    | non => simp [keyOf] at hb; subst hb; simp [D.kb]
    | int j => simp [keyOf] at hb; subst hb; simp [D.kb]
    | str j => simp [keyOf] at hb; subst hb; simp [D.kb]
    | tup es => simp [keyOf] at hb; obtain ⟨ks, _, rfl⟩ := hb; simp [D.kb]
    | _ => simp [keyOf] at hb
  | .str i, b, x, y, ha, hb => by
    simp only [keyOf, Option.some.injEq] at ha
    subst ha
    cases b with
    | non => simp [keyOf] at hb; subst hb; simp [D.kb]
    | int j => simp [keyOf] at hb; subst hb; simp [D.kb]
    | str j => simp only [keyOf, Option.some.injEq] at hb; subst hb; simp only [D.kb, decide_eq_true_eq, NestedKey.text.injEq]; exact sv_inj.symm
    | tup es => simp [keyOf] at hb; obtain ⟨ks, _, rfl⟩ := hb; simp [D.kb]
    | _ => simp [keyOf] at hb
  | .tup ds, b, x, y, ha, hb => by
    simp only [keyOf, Option.map_eq_some_iff] at ha
    obtain ⟨ks, hk, rfl⟩ := ha
    cases b with
    | non => simp [keyOf] at hb; subst hb; simp [D.kb]
    | int j => simp [keyOf] at hb; subst hb; simp [D.kb]
    | str j => simp [keyOf] at hb; subst hb; simp [D.kb]
    | tup es =>
      simp only [keyOf, Option.map_eq_some_iff] at hb
      obtain ⟨ls, hl, rfl⟩ := hb
      simp only [D.kb, NestedKey.tup.injEq]
      exact kbs_iff hk hl
    | _ => simp [keyOf] at hb
  | .bl _, _, _, _, ha, _ => by simp [keyOf] at ha
  | .lst _, _, _, _, ha, _ => by simp [keyOf] at ha
  | .loc _, _, _, _, ha, _ => by simp [keyOf] at ha
  | .fn _ _, _, _, _, ha, _ => by simp [keyOf] at ha
  | .exc _, _, _, _, ha, _ => by simp [keyOf] at ha
theorem kbs_iff : ∀ {as bs : List D} {xs ys : List NestedKey}, keysOf as = some xs → keysOf bs = some ys → (D.kbs as bs = true ↔ xs = ys)
  | [], [], _, _, ha, hb => by
    simp [keysOf] at ha hb
    subst ha hb
    simp [D.kbs]
  | [], b :: bs, _, _, ha, hb => by
    simp only [keysOf, Option.some.injEq] at ha
    subst ha
    simp only [keysOf, Option.bind_eq_some_iff, Option.map_eq_some_iff] at hb
    obtain ⟨y, _, ys, _, rfl⟩ := hb
    simp [D.kbs]
  | a :: as, [], _, _, ha, hb => by
    simp only [keysOf, Option.some.injEq] at hb
    subst hb
    simp only [keysOf, Option.bind_eq_some_iff, Option.map_eq_some_iff] at ha
    obtain ⟨y, _, ys, _, rfl⟩ := ha
    simp [D.kbs]
  | a :: as, b :: bs, _, _, ha, hb => by
    simp only [keysOf, Option.bind_eq_some_iff, Option.map_eq_some_iff] at ha hb
    obtain ⟨x, hx, xs, hxs, rfl⟩ := ha
    obtain ⟨y, hy, ys, hys, rfl⟩ := hb
    simp only [D.kbs, Bool.and_eq_true, kb_iff hx hy, kbs_iff hxs hys, List.cons.injEq]
end
mutual
theorem keyOf_ok : ∀ {d : D}, d.isKey = true → ∃ k, keyOf d = some k ∧ k.depth = d.depth
  | .non, _ => ⟨.none, rfl, rfl⟩
  | .int i, _ => ⟨.num i, rfl, rfl⟩
  | .str s, _ => ⟨.text (sv s), rfl, rfl⟩
  | .tup ds, h => by
    obtain ⟨ks, h1, h2⟩ := keysOf_ok (ds := ds) (by simpa [D.isKey] using h)
    exact ⟨.tup ks, by simp [keyOf, h1], by simp [NestedKey.depth, D.depth, h2]⟩
  | .bl _, h => by simp [D.isKey] at h
  | .lst _, h => by simp [D.isKey] at h
  | .loc _, h => by simp [D.isKey] at h
  | .fn _ _, h => by simp [D.isKey] at h
  | .exc _, h => by simp [D.isKey] at h
theorem keysOf_ok : ∀ {ds : List D}, D.areKeys ds = true → ∃ ks, keysOf ds = some ks ∧ NestedKey.depthAll ks = D.depths ds
  | [], _ => ⟨[], rfl, rfl⟩
  | d :: ds, h => by
    simp only [D.areKeys, Bool.and_eq_true] at h
    obtain ⟨k, h1, h2⟩ := keyOf_ok h.1
    obtain ⟨ks, h3, h4⟩ := keysOf_ok h.2
    exact ⟨k :: ks, by simp [keysOf, h1, h3], by simp [NestedKey.depthAll, D.depths, h2, h4]⟩
end
theorem okKey_key {d : D} (h : d.okKey = true) : ∃ ds ks, d = .tup ds ∧ keysOf ds = some ks ∧ keyOf d = some (.tup ks) ∧ (NestedKey.tup ks).depth ≤ 8 := by
  cases d with
  | tup ds =>
    simp only [D.okKey, Bool.and_eq_true, decide_eq_true_eq] at h
    obtain ⟨ks, h1, h2⟩ := keysOf_ok h.1
    exact ⟨ds, ks, rfl, h1, by simp [keyOf, h1], by simp [NestedKey.depth, h2]; omega⟩
  | _ => simp [D.okKey] at h
section
variable {X : Cx} {pins : List (Addr × Obj)} {σ : L2.St} {H : Hp} {s : Shared} {Y : Lay}
mutual
theorem nested_of (I : Inv X pins σ H s) : ∀ {d : D} {v : V} {k : NestedKey} {u : Value}, Rep (kwX X U) Y H d v → keyOf d = some k → RelV v u → NestedIs s.heap k u
  | _, _, _, _, .non, hk, ru => by
    simp only [keyOf, Option.some.injEq] at hk
    subst hk
    obtain rfl := ru
    exact .none
  | _, _, _, _, .int i, hk, ru => by
    simp only [keyOf, Option.some.injEq] at hk
    subst hk
    obtain ⟨t, rfl⟩ := ru
    exact .int i t
  | _, _, _, _, .str x, hk, ru => by
    simp only [keyOf, Option.some.injEq] at hk
    subst hk
    obtain ⟨t, rfl⟩ := ru
    exact .text _ t
  | _, _, _, _, .tup h r, hk, ru => by
    simp only [keyOf, Option.map_eq_some_iff] at hk
    obtain ⟨ks, hk, rfl⟩ := hk
    obtain rfl := ru
    obtain ⟨its, rv, ⟨o, h1, h2, n, h3⟩, _⟩ := I.tuple h
    exact .tup h1 h2 h3 (by simpa using nestedAll_of I r hk rv)
  | _, _, _, _, .bl _, hk, _ => by simp [keyOf] at hk
  | _, _, _, _, .lst _ _ _, hk, _ => by simp [keyOf] at hk
  | _, _, _, _, .lsk _ _, hk, _ => by simp [keyOf] at hk
  | _, _, _, _, .loc _, hk, _ => by simp [keyOf] at hk
theorem nestedAll_of (I : Inv X pins σ H s) : ∀ {ds : List D} {vs : List V} {ks : List NestedKey} {us : List Value}, RepL (kwX X U) Y H ds vs → keysOf ds = some ks → Vals vs us → NestedAll s.heap ks us
  | _, _, _, _, .nil, hk, .nil => by
    simp only [keysOf, Option.some.injEq] at hk
    subst hk
    exact .nil
  | _, _, _, _, .cons r t, hk, .cons ru rt => by
    simp only [keysOf, Option.bind_eq_some_iff, Option.map_eq_some_iff] at hk
    obtain ⟨k, h1, ks, h2, rfl⟩ := hk
    exact .cons (nested_of I r h1 ru) (nestedAll_of I t h2 rt)
end
/-- the dict in the heap -/
theorem dict_of (I : Inv X pins σ H s) {a : Addr} {kvs : List (D × D)} {xs : List (NestedKey × Addr × Value)} (h : H a = some (DictX (kwX X U) a xs)) (r : RepKV (kwX X U) Y H kvs xs) :
    (a == sysModules) = false ∧ s.heap.DictOfH (nestedKind X.prog X.w) a xs := by
  obtain ⟨⟨h0, o, es, ep, h1, h2, h3, h4, h5⟩, _⟩ := I.hok a _ h
  refine ⟨h0, o, es, ep, h1, h2, h3, h4, ?_, h5⟩
  have key : ∀ {kvs : List (D × D)} {xs : List (NestedKey × Addr × Value)}, RepKV (kwX X U) Y H kvs xs → ∀ x ∈ xs, (nestedKind X.prog X.w).is s.heap x.1 x.2.1 := by
    intro kvs xs r
    induction r with
    | nil => intro x hx; simp at hx
    | cons k1 k2 k3 k4 k5 t ih =>
      intro x hx
      rcases List.mem_cons.mp hx with e | e
      · subst e
        exact ⟨nested_of I k3 k1 rfl, k2⟩
      · exact ih x e
  exact key r
theorem dict_new {P : Program} {w : World} {K : PySem.W.Frag} {H : Hp} {h : Heap} {a : Addr} {xs : List (NestedKey × Addr × Value)} (h0 : (a == sysModules) = false) (d : h.DictOfH (nestedKind P w) a xs) : ObjOk P w H h a (DictX ⟨P, w, K, cl⟩ a xs) := by
  obtain ⟨o, es, ep, h1, h2, h3, h4, _, h5⟩ := d
  refine ⟨⟨h0, o, es, ep, h1, h2, h3, h4, h5⟩, ⟨o, h1⟩, fun g1 g2 p k => ?_⟩
  obtain ⟨z, o, es, ep, h1, r⟩ := p
  exact ⟨z, o, es, ep, k o h1, r⟩
theorem RepKV.len {K : KW} {Y : Lay} {H : Hp} : ∀ {kvs : List (D × D)} {xs : List (NestedKey × Addr × Value)}, RepKV K Y H kvs xs → kvs.length = xs.length
  | _, _, .nil => rfl
  | _, _, .cons _ _ _ _ _ t => congrArg (· + 1) t.len
theorem RepKV.get {K : KW} {Y : Lay} {H : Hp} {x : D} {nk : NestedKey} (hx : keyOf x = some nk) : ∀ {kvs : List (D × D)} {xs : List (NestedKey × Addr × Value)}, RepKV K Y H kvs xs →
    match getKD kvs x with
    | some d => ∃ p v, atKey xs nk = some p ∧ RelV v p.2 ∧ Rep K Y H d v
    | none => atKey xs nk = none
  | _, _, .nil => rfl
  | _, _, .cons (k := k) (d := d) (kvs := kvs) (nk := nk') (ka := ka) (u := u) (v := v) (xs := xs) h1 h2 h3 h4 h5 t => by
    have ih := RepKV.get hx t
    unfold getKD
    have e := kb_iff h1 hx
    by_cases q : k.kb x = true
    · rw [if_pos q]
      have : nk' = nk := e.mp q
      exact ⟨(ka, u), v, by simp [atKey, this], h4, h5⟩
    · rw [if_neg q]
      have : ¬ nk' = nk := fun z => q (e.mpr z)
      have e2 : atKey ((nk', ka, u) :: xs) nk = atKey xs nk := by simp [atKey, this]
      rw [e2]
      exact ih
theorem RepKV.setNone {K : KW} {Y : Lay} {H : Hp} {x d : D} {nk : NestedKey} {ka : Addr} {u : Value} {v : V} (hx : keyOf x = some nk) (hd : nk.depth ≤ 8) (r : Rep K Y H x (.ref ka)) (ru : RelV v u) (rd : Rep K Y H d v) :
    ∀ {kvs : List (D × D)} {xs : List (NestedKey × Addr × Value)}, RepKV K Y H kvs xs → atKey xs nk = none → RepKV K Y H (setKD kvs x d) (xs ++ [(nk, ka, u)])
  | _, _, .nil, _ => .cons hx hd r ru rd .nil
  | _, _, .cons (k := k) (d := d') (kvs := kvs) (nk := nk') (ka := ka') (u := u') (v := v') (xs := xs) h1 h2 h3 h4 h5 t, hn => by
    have e := kb_iff h1 hx
    have ne : ¬ nk' = nk := fun z => by simp [atKey, z] at hn
    have hn' : atKey xs nk = none := by simpa [atKey, ne] using hn
    unfold setKD
    rw [if_neg fun z => ne (e.mp z)]
    exact .cons h1 h2 h3 h4 h5 (RepKV.setNone hx hd r ru rd t hn')
theorem putAt_off {nk : NestedKey} {u : Value} : ∀ {xs : List (NestedKey × Addr × Value)}, nk ∉ xs.map (·.1) → xs.map (putAt nk u) = xs
  | [], _ => rfl
  | (n, a, w) :: xs, h => by
    simp only [List.map_cons, List.mem_cons, not_or] at h
    rw [List.map_cons, putAt_off h.2]
    have : putAt nk u (n, a, w) = (n, a, w) := by unfold putAt; rw [if_neg fun z => h.1 z.symm]
    rw [this]
theorem RepKV.setSome {K : KW} {Y : Lay} {H : Hp} {x d : D} {nk : NestedKey} {u : Value} {v : V} (hx : keyOf x = some nk) (ru : RelV v u) (rd : Rep K Y H d v) :
    ∀ {kvs : List (D × D)} {xs : List (NestedKey × Addr × Value)}, RepKV K Y H kvs xs → (xs.map (·.1)).Nodup → (atKey xs nk).isSome → RepKV K Y H (setKD kvs x d) (xs.map (putAt nk u))
  | _, _, .nil, _, h => by simp [atKey] at h
  | _, _, .cons (k := k) (d := d') (kvs := kvs) (nk := nk') (ka := ka') (u := u') (v := v') (xs := xs) h1 h2 h3 h4 h5 t, nd, hn => by
    have e := kb_iff h1 hx
    rw [List.map_cons, List.nodup_cons] at nd
    unfold setKD
    rw [List.map_cons]
    by_cases q : k.kb x = true
    · have : nk' = nk := e.mp q
      subst this
      rw [if_pos q, putAt_off nd.1]
      have : putAt nk' u (nk', ka', u') = (nk', ka', u) := by unfold putAt; rw [if_pos rfl]
      rw [this]
      exact .cons h1 h2 h3 ru rd t
    · have ne : ¬ nk' = nk := fun z => q (e.mpr z)
      have hn' : (atKey xs nk).isSome := by simpa [atKey, ne] using hn
      rw [if_neg q]
      have : putAt nk u (nk', ka', u') = (nk', ka', u') := by unfold putAt; rw [if_neg ne]
      rw [this]
      exact .cons h1 h2 h3 h4 h5 (RepKV.setSome hx ru rd t nd.2 hn')
theorem setKD_len {x d : D} : ∀ kvs : List (D × D), (setKD kvs x d).length ≤ kvs.length + 1
  | [] => by simp [setKD]
  | (k, e) :: r => by
    unfold setKD
    split
    · simp
    · have := setKD_len (x := x) (d := d) r
      simp only [List.length_cons]
      omega
end
/-- what is asked of a dict and of a key -/
def AtD (X : Cx) (U : Wh) (Y : Lay) (H : Hp) (kvs : List (D × D)) (xs : List (NestedKey × Addr × Value)) (k : D) (nk : NestedKey) (x y : V) : Prop :=
  ∃ a b, x = .ref b ∧ y = .ref a ∧ H a = some (DictX (kwX X U) a xs) ∧ RepKV (kwX X U) Y H kvs xs ∧ Rep (kwX X U) Y H k (.ref b) ∧ keyOf k = some nk ∧ nk.depth ≤ 8
theorem dict_read {X : Cx} {U : Wh} {Y : Lay} {S : Store} {H : Hp} {d : D} {y : V} {kvs : List (D × D)} (g : Good (kwX X U) Y S H) (r : Rep (kwX X U) Y H d y) (h : dictOf S d = some kvs) :
    ∃ n a xs, d = .loc n ∧ S[n]? = some (.dict kvs) ∧ Y.loc[n]? = some a ∧ y = .ref a ∧ H a = some (DictX (kwX X U) a xs) ∧ kvs.length ≤ sizeLine ∧ RepKV (kwX X U) Y H kvs xs := by
  unfold dictOf at h
  split at h
  · rename_i n
    cases r with
    | loc hl =>
      split at h
      · rename_i kvs' hS
        cases h
        obtain ⟨xs, h1, h2, h3⟩ := g.at' n _ _ hS hl
        exact ⟨n, _, xs, rfl, hS, hl, rfl, h1, h2, h3⟩
      · cases h
  · cases h
theorem key_read {X : Cx} {U : Wh} {Y : Lay} {H : Hp} {d : D} {x : V} (r : Rep (kwX X U) Y H d x) (h : d.okKey = true) : ∃ b nk, x = .ref b ∧ keyOf d = some nk ∧ nk.depth ≤ 8 := by
  obtain ⟨ds, ks, rfl, h1, h2, h3⟩ := okKey_key h
  cases r with
  | tup h r => exact ⟨_, _, rfl, h2, h3⟩
section
variable {X : Cx} {U : Wh}
theorem room_in1 {A : Around} (hu : A.units + 64 < cLine) : (nestedKind X.prog X.w).room A.in1 := by
  show A.in1.units + 8 < cLine
  have : A.in1.units ≤ A.units + 1 := by simp [Around.in1, Around.units]
  omega
def rKIn (X : Cx) (U : Wh) (f : Bool → Bool) : V → V → Hp → VK → Prop := fun x y H Q => ∃ Y kvs xs k nk, AtD X U Y H kvs xs k nk x y ∧ Q (.bl (f (getKD kvs k).isSome)) H
theorem op_kin (hu : X.A.units + 64 < cLine) : OpR X (compareOp .In) (rKIn X U fun b => b) := by
  intro pins s σ H x y v u Q I rx ry h
  obtain ⟨Y, kvs, xs, k, nk, ⟨a, b, rfl, rfl, h1, h2, h3, h4, h5⟩, q⟩ := h
  obtain rfl := rx
  obtain rfl := ry
  obtain ⟨h0, hd⟩ := dict_of I h1 h2
  refine wpAny_in_heap (room_in1 hu) ⟨nested_of I h3 h4 rfl, h5⟩ h0 hd ?_
  have e := h2.get h4
  have e2 : (atKey xs nk).isSome = (getKD kvs k).isSome := by
    cases z : getKD kvs k with
    | none => rw [z] at e; rw [e]; rfl
    | some d => rw [z] at e; obtain ⟨p, v, e, _⟩ := e; rw [e]; rfl
  rw [e2]
  exact ⟨.bl _, H, I.tok _, rfl, q⟩
theorem op_knotin (hu : X.A.units + 64 < cLine) : OpR X (compareOp .NotIn) (rKIn X U fun b => !b) := by
  intro pins s σ H x y v u Q I rx ry h
  obtain ⟨Y, kvs, xs, k, nk, ⟨a, b, rfl, rfl, h1, h2, h3, h4, h5⟩, q⟩ := h
  obtain rfl := rx
  obtain rfl := ry
  obtain ⟨h0, hd⟩ := dict_of I h1 h2
  refine wpAny_notIn_heap (room_in1 hu) ⟨nested_of I h3 h4 rfl, h5⟩ h0 hd ?_
  have e := h2.get h4
  have e2 : (atKey xs nk).isSome = (getKD kvs k).isSome := by
    cases z : getKD kvs k with
    | none => rw [z] at e; rw [e]; rfl
    | some d => rw [z] at e; obtain ⟨p, v, e, _⟩ := e; rw [e]; rfl
  rw [e2]
  exact ⟨.bl _, H, I.tok _, rfl, q⟩
theorem o_kin (hu : X.A.units + 64 < cLine) : OpF X U (compareOp .In) gKIn := by
  refine ⟨_, op_kin (U := U) hu, fun Y S H a b x y Q g ra rb h => ?_⟩
  unfold gKIn at h
  split at h
  · rename_i kvs hk
    obtain ⟨hc, h⟩ := ite_ok h
    obtain ⟨n, p, xs, rfl, _, _, rfl, m1, m2, m3⟩ := dict_read g rb hk
    obtain ⟨q, nk, rfl, k1, k2⟩ := key_read ra hc
    exact ⟨Y, kvs, xs, a, nk, ⟨p, q, rfl, rfl, m1, m3, ra, k1, k2⟩, h.val g (.bl _)⟩
  · exact h.elim
theorem o_knotin (hu : X.A.units + 64 < cLine) : OpF X U (compareOp .NotIn) gKNotIn := by
  refine ⟨_, op_knotin (U := U) hu, fun Y S H a b x y Q g ra rb h => ?_⟩
  unfold gKNotIn at h
  split at h
  · rename_i kvs hk
    obtain ⟨hc, h⟩ := ite_ok h
    obtain ⟨n, p, xs, rfl, _, _, rfl, m1, m2, m3⟩ := dict_read g rb hk
    obtain ⟨q, nk, rfl, k1, k2⟩ := key_read ra hc
    exact ⟨Y, kvs, xs, a, nk, ⟨p, q, rfl, rfl, m1, m3, ra, k1, k2⟩, h.val g (.bl _)⟩
  · exact h.elim
/-- d[k] -/
def rKIx (X : Cx) (U : Wh) : R2 := fun x y H Q => ∃ Y kvs xs k nk d, AtD X U Y H kvs xs k nk y x ∧ getKD kvs k = some d ∧ ∀ v, Rep (kwX X U) Y H d v → Q v H
theorem ix_key (hu : X.A.units + 64 < cLine) : IxR X (rKIx X U) := by
  intro value slice pins s σ H x y v u Q I rx ry h hs
  obtain ⟨Y, kvs, xs, k, nk, d, ⟨a, b, rfl, rfl, h1, h2, h3, h4, h5⟩, hd, q⟩ := h
  obtain rfl := rx
  obtain rfl := ry
  obtain ⟨h0, hm⟩ := dict_of I h1 h2
  have e := h2.get h4
  rw [hd] at e
  obtain ⟨p, w, e1, e2, e3⟩ := e
  have fin : EP X pins σ Q p.2 { s with toks := s.toks + (nestedKind X.prog X.w).draws nk } := ⟨w, H, I.tok _, e2, q w e3⟩
  exact subscriptTail_builtinR (x := p.2) hm.typeIs PySem.F.slot_dict_getitem.lookup
    (wpAny_getItem_heap (room_in1 hu) ⟨nested_of I h3 h4 rfl, h5⟩ hm e1 ⟨rfl, fin⟩) hs
theorem pf_kix {a b : Expr} {Fa Fb : FE} {pos : Pos} (hu : X.A.units + 64 < cLine) (ha : PeF X U a Fa) (hb : PeF X U b Fb) (hs : PlainIx b := by exact fun _ _ => rfl) : PeF X U (.Subscript a b pos) (dBin gKIdx Fa Fb) := by
  obtain ⟨ta, p1, q1⟩ := ha
  obtain ⟨tb, p2, q2⟩ := hb
  refine ⟨_, pe_ix (ix_key (U := U) hu) p1 p2 hs, DE.op q1 q2 fun Y S H a b x y Q g ra rb h => ?_⟩
  unfold gKIdx at h
  split at h
  · rename_i kvs hk
    obtain ⟨hc, h⟩ := ite_ok h
    obtain ⟨n, p, xs, rfl, _, _, rfl, m1, m2, m3⟩ := dict_read g ra hk
    obtain ⟨q, nk, rfl, k1, k2⟩ := key_read rb hc
    split at h
    · rename_i d hd
      exact ⟨Y, kvs, xs, b, nk, d, ⟨p, q, rfl, rfl, m1, m3, rb, k1, k2⟩, hd, fun v rv => h.val g rv⟩
    · exact h.elim
  · exact h.elim
/-- d[k] = v -/
def rKSet (X : Cx) (U : Wh) : V → V → V → Hp → (Hp → Prop) → Prop := fun o i v H Q => ∃ Y kvs xs k nk d a, o = .ref a ∧ AtD X U Y H kvs xs k nk i o ∧ kvs.length < sizeLine ∧ Rep (kwX X U) Y H d v ∧
  ∀ ys, RepKV (kwX X U) Y H (setKD kvs k d) ys → Q (upd H a (DictX (kwX X U) a ys))
theorem set_key (hu : X.A.units + 64 < cLine) : PSet X (rKSet X U) := by
  intro pins s σ H o i v ov iv u Q I ro ri rv h
  obtain ⟨Y, kvs, xs, k, nk, d, a, rfl, ⟨a', b, rfl, ea, h1, h2, h3, h4, h5⟩, hl, rd, q⟩ := h
  cases ea
  obtain rfl := ro
  obtain rfl := ri
  obtain ⟨h0, hm⟩ := dict_of I h1 h2
  have hz : xs.length ≤ sizeLine := by rw [← h2.len]; exact Nat.le_of_lt hl
  refine wpAny_setItem_heap (hsz := hz) (room_in1 hu) ⟨nested_of I h3 h4 rfl, h5⟩ hm fun h' hm' hs => ?_
  have nd : (xs.map (·.1)).Nodup := by obtain ⟨_, _, _, _, _, _, _, _, n⟩ := hm; exact n
  have new : RepKV (kwX X U) Y H (setKD kvs k d) (storedH xs nk b u) := by
    have e := h2.get h4
    cases z : getKD kvs k with
    | none =>
      rw [z] at e
      rw [storedH_new e]
      exact RepKV.setNone h4 h5 h3 rv rd h2 e
    | some d' =>
      rw [z] at e
      obtain ⟨p, w, e, _⟩ := e
      rw [storedH_old e]
      exact RepKV.setSome h4 rv rd h2 nd (by rw [e]; rfl)
  have he : ∃ z, h'.get? a = some z := by
    obtain ⟨z, _, _, hz, _⟩ := hm'
    exact ⟨z, hz⟩
  exact ⟨_, I.write (e := a) (t' := s.toks + (nestedKind X.prog X.w).draws nk) (by rw [h1]; trivial) (.inl rfl) (fun c z hc hz => (hs.2 c hc).trans hz) he (dict_new h0 hm'), q _ new⟩
theorem Ext.dict {K : KW} {Y : Lay} {H : Hp} {n : Nat} {a : Addr} {xs : List (NestedKey × Addr × Value)} {ob : HO} (hl : Y.loc[n]? = some a) (h : H a = some (DictX K a xs)) : Ext Y H Y (upd H a ob) :=
  Ext.chg hl (fun zs q => by
    rcases q with q | ⟨o, q⟩
    · rw [h] at q; cases q
    · rw [h] at q; cases q) (fun od u q => by rw [h] at q; cases q) (by rw [h]; exact fun z => nomatch z)
theorem pg_subK {o i : Expr} {Fo Fi : FE} {pos : Pos} (hu : X.A.units + 64 < cLine) (ho : PeF X U o Fo) (hi : PeF X U i Fi) (ha : ∀ v, assign (.Subscript o i pos) X.env v = (do
      let ov ← holding [v] (eval o X.env)
      let iv ← holding [v, ov] (eval i X.env)
      standAt pos
      holding [v, ov, iv] (setItem ov iv v)
      release [v, ov, iv] []) := by intro _; rfl) : PgF X U (.Subscript o i pos) [] (gSubK Fo Fi) := by
  obtain ⟨t1, p1, q1⟩ := ho
  obtain ⟨t2, p2, q2⟩ := hi
  refine ⟨_, pg_sub p1 p2 (set_key (U := U) hu) ha, fun Y S H σ ρ d v Q g rs rd h => q1 Y S H σ ρ _ g rs ((Pst.bind h).imp fun x S1 Y1 H1 e1 g1 h1 xo rxo => q2 Y1 S1 H1 σ ρ _ g1 (rs.mono e1)
    ((Pst.bind h1).imp fun y S2 Y2 H2 e2 g2 h2 xi rxi => ?_))⟩
  have rd2 := (rd.mono e1).mono e2
  have rs2 := (rs.mono e1).mono e2
  have rxo2 := rxo.mono e2
  have h3 := Pst.bind h2
  unfold setKAt at h3
  split at h3
  · rename_i n
    split at h3
    · rename_i kvs hS
      obtain ⟨hc, h5⟩ := ite_ok h3
      obtain ⟨n', p, xs, en, _, hl, rfl, m1, m2, m3⟩ := dict_read (kvs := kvs) g2 rxo2 (by unfold dictOf; dsimp only; rw [hS])
      cases en
      obtain ⟨q, nk, rfl, k1, k2⟩ := key_read rxi hc.1
      refine ⟨Y2, kvs, xs, y, nk, d, p, rfl, ⟨p, q, rfl, rfl, m1, m3, rxi, k1, k2⟩, hc.2, rd2, fun ys ry => ?_⟩
      have ex : Ext Y2 H2 Y2 (upd H2 p (DictX (kwX X U) p ys)) := Ext.dict hl m1
      have gx : Good (kwX X U) Y2 (S2.set n (.dict (setKD kvs y d))) (upd H2 p (DictX (kwX X U) p ys)) := by
        refine Good.chg g2 hl (fun zs q => by
          rcases q with q | ⟨o, q⟩
          · rw [m1] at q; cases q
          · rw [m1] at q; cases q) (fun od u q => by rw [m1] at q; cases q) ⟨ys, upd_same, ?_, ry.monoV ex.v⟩
        have := setKD_len (x := y) (d := d) kvs
        have := hc.2
        exact Nat.le_trans (setKD_len kvs) hc.2
      exact (h5 Y2 _ ex gx).now gx σ (rs2.mono ex) (fun _ _ => rfl) rfl
    · exact h3.elim
  · exact h3.elim
/-- {} -/
theorem pf_dict0 {pos : Pos} : PeF X U (.Dict [] [] pos) dDict0 := by
  refine ⟨fun σ H Q => ∀ p, H p = none → Q (.ref p) (upd H p (DictX (kwX X U) p [])), ⟨fun pins s σ H Q I h => ?_⟩, fun Y S H σ ρ Q g rs h p hp => ?_⟩
  · have big : (s.heap.objs.size == sysModules) = false := beq_false_of_ne (Nat.ne_of_gt I.big)
    exact wpAny_Dict_empty ⟨.ref s.heap.objs.size, _, I.laid (a := s.heap.objs.size) (t' := s.toks) (fun _ _ q => Heap.get?_push_of_some _ q) (Nat.le_refl _) (dict_new big (Heap.DictOfH.new s.heap)), rfl, h _ (I.hok.fresh (Nat.le_refl _))⟩
  · have ex : Ext Y H (Y.add p) (upd H p (DictX (kwX X U) p [])) := Ext.add hp
    have gx : Good (kwX X U) (Y.add p) (S ++ [.dict []]) (upd H p (DictX (kwX X U) p [])) := g.add hp ⟨[], upd_same, Nat.zero_le _, .nil⟩
    refine h _ _ ex gx _ (.loc ?_)
    show (Y.loc ++ [p])[S.length]? = some p
    rw [← g.len]
    simp
end
end WF

set_option Elab.async false
set_option linter.all false
set_option maxRecDepth 100000
set_option maxHeartbeats 4000000
/-! # Rules11: zip of a list and a tuple -/
namespace WF
open PySem L2 PyProof.Rows
/-- the list at a and the tuple at b as they stand at each turn -/
def ItM (K : PySem.W.Frag) (a b : Addr) : It :=
  ⟨fun i H => ∃ (xs ys : List V) (x y : V), SqL K H a xs ∧ SqT K H b ys ∧ xs[i]? = some x ∧ ys[i]? = some y,
    fun i H v H' => ∃ T x y, v = .ref T ∧ H T = none ∧ H' = upd H T (.tup [x, y]) ∧ (∀ xs, SqL K H a xs → xs[i]? = some x) ∧ ∀ ys, SqT K H b ys → ys[i]? = some y,
    fun i H => ∃ xs ys : List V, SqL K H a xs ∧ SqT K H b ys ∧ min xs.length ys.length = i⟩
theorem turn_zipM {P : Program} {w : World} {K : PySem.W.Frag} {elts : List Expr} {kk N : Nat} {tpos : Pos} {a b : Addr} (ha : a < N) (hb : b < N) :
    Turn P w K (.Tuple elts kk tpos) (ItM K a b) [N + 4, N + 2, N + 3, N, N + 1] (N + 4) (fun i h => IsZip h (N + 4) (N + 2) (N + 3) .none ∧ IsTupOf2 h (N + 2) (.ref N) (.ref (N + 1)) ∧ (∃ x y, IsTupOf2 h (N + 3) x y) ∧ h.IsListIter N a i ∧ h.IsTupleIter (N + 1) b i) where
  mem := List.mem_cons_self ..
  obj := fun i h st c hc => by
    obtain ⟨hz, hTI, ⟨x, y, hTO⟩, ⟨o1, e1, _, d1⟩, ⟨o2, e2, _, d2⟩⟩ := st
    simp only [List.mem_cons, List.not_mem_nil, or_false] at hc
    rcases hc with q | q | q | q | q <;> subst q
    · exact ⟨_, hz, fun v q => nomatch q⟩
    · exact ⟨_, hTI, fun v q => nomatch q⟩
    · exact ⟨_, hTO, fun v q => nomatch q⟩
    · exact ⟨o1, e1, fun v q => by rw [d1] at q; cases q⟩
    · exact ⟨o2, e2, fun v q => by rw [d2] at q; cases q⟩
  keep := fun i h h' st k => by
    obtain ⟨hz, hTI, ⟨x, y, hTO⟩, h1, h2⟩ := st
    exact ⟨k _ (by simp) _ hz, k _ (by simp) _ hTI, ⟨x, y, k _ (by simp) _ hTO⟩, h1.at fun o q => k _ (by simp) o q, h2.at fun o q => k _ (by simp) o q⟩
  item := by
    intro X hP hw hK hc i pins s σ H E I hf st hg
    subst hP hw hK
    obtain ⟨hz, hTI, hTO, h1, h2⟩ := st
    obtain ⟨xs, ys, x, y, hqx, hqy, hx, hy⟩ := hg
    obtain ⟨its, rv, p, _⟩ := I.list hqx
    obtain ⟨its2, rv2, p2, _⟩ := I.tuple hqy
    obtain ⟨u, hu, ru⟩ := rv.get hx
    obtain ⟨u2, hu2, ru2⟩ := rv2.get hy
    have hh : X.A.in1.handled = none := I.ok.hd hc
    have D1 := Draws.list (prog := X.prog) (w := X.w) hh N a (Nat.ne_of_lt ha) its.toArray
    have D2 := Draws.tuple (prog := X.prog) (w := X.w) hh (N + 1) b (Nat.ne_of_lt (Nat.lt_succ_of_lt hb)) its2.toArray
    have S2 : ZipSep2 (N + 4) (N + 2) (N + 3) N (N + 1) [N, a] [N + 1, b] := zip_sep2 (fp1 := [a]) (fp2 := [b]) (by simpa using ha) (by simpa using hb)
    have W := WalksT.zipD2 S2 D1 D2
    have l1 : i < its.toArray.size := by
      rcases Nat.lt_or_ge i its.length with z | z
      · simpa using z
      · rw [List.getElem?_eq_none z] at hu; cases hu
    have l2 : i < its2.toArray.size := by
      rcases Nat.lt_or_ge i its2.length with z | z
      · simpa using z
      · rw [List.getElem?_eq_none z] at hu2; cases hu2
    refine W.item i s _ _ (by omega) ⟨hz, hTI, hTO, ⟨h1, p.isList⟩, ⟨h2, p2⟩⟩ fun T vals h' tk hv hT ht hm hk => ?_
    obtain ⟨x1, x2, e1, e2, rfl⟩ := hv
    have e1' : x1 = u := by
      have : its[i]? = some x1 := by simpa using e1
      rw [hu] at this; cases this; rfl
    have e2' : x2 = u2 := by
      have : its2[i]? = some x2 := by simpa using e2
      rw [hu2] at this; cases this; rfl
    subst e1' e2'
    have hap := W.apart i T h' hm
    refine ⟨_, rfl, W.go elts kk tpos i T { s with heap := h', toks := tk } _ _ hm fun h'' st' hk' => ?_⟩
    obtain ⟨sz, sTI, sTO, ⟨s1, _⟩, ⟨s2, _⟩⟩ := st'
    have ht2 : h''.IsTuple T #[x1, x2] := ht.at fun o q => hk' T o hap q
    have new : ObjOk X.prog X.w (upd H T (.tup [x, y])) h'' T (.tup [x, y]) := ⟨by show 2 ≤ sizeLine; decide, [x1, x2], .cons ru (.cons ru2 .nil), ht2⟩
    have hle : ∀ c ∈ [N + 4, N + 2, N + 3, N, N + 1], c < s.heap.objs.size := by
      intro c hcm
      simp only [List.mem_cons, List.not_mem_nil, or_false] at hcm
      obtain ⟨x0, y0, hTO⟩ := hTO
      obtain ⟨o1, e1, _⟩ := h1
      obtain ⟨o2, e2, _⟩ := h2
      rcases hcm with q | q | q | q | q <;> subst q
      · exact Heap.lt_size hz
      · exact Heap.lt_size hTI
      · exact Heap.lt_size hTO
      · exact Heap.lt_size e1
      · exact Heap.lt_size e2
    have wr : ∀ c, c ∉ [N + 4, N + 2, N + 3, N, N + 1] → c ∉ [N + 4, N + 3, N, N + 1] := by
      intro c h1 h2
      refine h1 ?_
      simp only [List.mem_cons, List.not_mem_nil, or_false] at h2 ⊢
      rcases h2 with q | q | q | q <;> simp [q]
    have I1 : Inv X pins σ (upd H T (.tup [x, y])) { s with heap := h'', toks := tk } :=
      I.turnedNew (ch := [N + 4, N + 2, N + 3, N, N + 1]) (fun c ob hb q => hk' c ob (wr c hb) (hk c ob (wr c hb) q)) hf hT new
    refine ⟨.ref T, _, I1, rfl, ⟨T, x, y, rfl, I.hok.fresh hT, rfl, fun l hl => by rw [I.list_inj hl hqx]; exact hx, fun l hl => by rw [I.tuple_inj hl hqy]; exact hy⟩, ⟨sz, sTI, sTO, s1, s2⟩, fun c hcm => ?_⟩
    rw [upd_ne (Nat.ne_of_lt (Nat.lt_of_lt_of_le (hle c hcm) hT))]
    exact (hf c hcm).1
  done := by
    intro X hP hw hK hc i pins s σ H E I hf st hg
    subst hP hw hK
    obtain ⟨hz, hTI, hTO, h1, h2⟩ := st
    obtain ⟨xs, ys, hqx, hqy, hend⟩ := hg
    obtain ⟨its, rv, p, _⟩ := I.list hqx
    obtain ⟨its2, rv2, p2, _⟩ := I.tuple hqy
    have hh : X.A.in1.handled = none := I.ok.hd hc
    have D1 := Draws.list (prog := X.prog) (w := X.w) hh N a (Nat.ne_of_lt ha) its.toArray
    have D2 := Draws.tuple (prog := X.prog) (w := X.w) hh (N + 1) b (Nat.ne_of_lt (Nat.lt_succ_of_lt hb)) its2.toArray
    have S2 : ZipSep2 (N + 4) (N + 2) (N + 3) N (N + 1) [N, a] [N + 1, b] := zip_sep2 (fp1 := [a]) (fp2 := [b]) (by simpa using ha) (by simpa using hb)
    have W := WalksT.zipD2 S2 D1 D2
    have e1 := rv.length
    have e2 := rv2.length
    have hn : i = min its.toArray.size its2.toArray.size := by simp; omega
    subst hn
    have wr : ∀ c, c ∉ [N + 4, N + 2, N + 3, N, N + 1] → c ∉ [N + 4, N + 3, N, N + 1] := by
      intro c h1 h2
      refine h1 ?_
      simp only [List.mem_cons, List.not_mem_nil, or_false] at h2 ⊢
      rcases h2 with q | q | q | q <;> simp [q]
    exact W.done s _ _ ⟨hz, hTI, hTO, ⟨h1, p.isList⟩, ⟨h2, p2⟩⟩ fun h' tk hk => ⟨rfl, I.turnedL (ch := [N + 4, N + 2, N + 3, N, N + 1]) (t' := tk) (fun c ob hb q => hk c ob (wr c hb) q) hf⟩
  self := fun A i s Q E st h => wpAny_pyIter_zip st.1 h
def iZipM (K : PySem.W.Frag) (ta : TA) : TI := fun σ H R => ta σ H fun vs H1 => ∃ a b xs ys, vs = [.ref a, .ref b] ∧ SqL K H1 a xs ∧ SqT K H1 b ys ∧ R (ItM K a b) H1
theorem pi_zipM {X : Cx} {e e2 : Expr} {ta : TA} {p pos tpos : Pos} {elts : List Expr} {kk : Nat} (hg : Gl X "zip") (hm : X.mg "zip" = none) (ha : PA X [e, e2] ta)
    (hs : starEach [e, e2] X.env = (false, eval e X.env) :: starEach [e2] X.env := by rfl) (hpl : (backTo pos (starEach [e2] X.env)).any (·.1) = false := by rfl) :
    PI X (.Tuple elts kk tpos) (.Call (.Name "zip" p) [e, e2] [] pos) (iZipM X.K ta) := by
  refine ⟨fun pins s σ H R I h => Call_ (ld_blt I hg hm PyProof.Rows.boot_zip (PyProof.Rows.callWith_type1 (thn (ha.run pos pins s σ H _ I h) fun us s1 ⟨vs, H1, I1, r1, q1⟩ => ?_) hs hpl))⟩
  obtain ⟨a, b, xs, ys, rfl, hqx, hqy, q⟩ := q1
  cases r1 with
  | cons r rr =>
    cases rr with
    | cons r' rr =>
      cases rr
      cases r
      cases r'
      obtain ⟨its, rv, p1, _⟩ := I1.list hqx
      obtain ⟨its2, rv2, p2, _⟩ := I1.tuple hqy
      have la : a < s1.heap.objs.size := p1.lt
      have lb : b < s1.heap.objs.size := p2.lt
      refine zip_begins2 (begins_list a its.toArray) (begins_tuple b its2.toArray) p1.isList p2 fun h' hz hTI hTO h1 h2 hsz hk => wpAny_pyIter_zip hz ?_
      have I2 : Inv X pins σ H1 { s1 with heap := h' } := I1.kept (t' := s1.toks) hk
      refine ⟨s1.heap.objs.size + 4, [s1.heap.objs.size + 4, s1.heap.objs.size + 2, s1.heap.objs.size + 3, s1.heap.objs.size, s1.heap.objs.size + 1], _, _, H1, rfl, I2, turn_zipM la lb, ⟨hz, hTI, ⟨_, _, hTO⟩, ⟨_, h1, rfl, rfl⟩, ⟨_, h2, rfl, rfl⟩⟩, fun c hcm => ?_, q⟩
      have hle : s1.heap.objs.size ≤ c := by
        simp only [List.mem_cons, List.not_mem_nil, or_false] at hcm
        rcases hcm with z | z | z | z | z <;> subst z
        · exact Nat.le_add_right _ _
        · exact Nat.le_add_right _ _
        · exact Nat.le_add_right _ _
        · exact Nat.le_refl _
        · exact Nat.le_add_right _ _
      exact I1.fpOk hle (I1.hok.fresh hle)
theorem zipD_len : ∀ es ts : List D, (zipD es ts).length = min es.length ts.length
  | [], ts => by simp [zipD]
  | e :: es, [] => by simp [zipD]
  | e :: es, t :: ts => by simp [zipD, zipD_len es ts]
theorem zipD_get : ∀ {es ts : List D} {i : Nat} {x y : D}, es[i]? = some x → ts[i]? = some y → (zipD es ts)[i]? = some (.tup [x, y])
  | e :: es, t :: ts, 0, x, y, h1, h2 => by
    simp at h1 h2
    subst h1 h2
    rfl
  | e :: es, t :: ts, i + 1, x, y, h1, h2 => by
    simp only [zipD, List.getElem?_cons_succ] at h1 h2 ⊢
    exact zipD_get h1 h2
  | [], _, _, _, _, h, _ => by simp at h
  | _ :: _, [], _, _, _, _, h => by simp at h
theorem walk_zipC {K : KW} {Y : Lay} {H : Hp} {a b : Addr} {ds : List D} {w : Option Live} {ts : List D} {ys : List V} (hy : SqT K H b ys) (ry : RepL K Y H ts ys)
    (rd : ∀ Y2 S2 H2 es, Ext Y H Y2 H2 → Good K Y2 S2 H2 → items S2 ds w = some es → ∃ fs xs, es = zipD fs ts ∧ SqL K H2 a xs ∧ RepL K Y2 H2 fs xs) : Walk K (ItM K a b) ds w Y H := by
  refine ⟨fun Y2 S2 H2 es e2 g2 h => ?_, fun i Y2 S2 H2 es e2 g2 h hi => ?_, fun i Y2 S2 H2 es x H3 e2 g2 h hi hx => ?_⟩
  · obtain ⟨fs, xs, rfl, h1, h2⟩ := rd Y2 S2 H2 es e2 g2 h
    exact ⟨xs, ys, h1, e2.sqt hy, by rw [zipD_len, h2.len, ry.len]⟩
  · obtain ⟨fs, xs, rfl, h1, h2⟩ := rd Y2 S2 H2 es e2 g2 h
    rw [zipD_len, h2.len, ry.len] at hi
    have i1 : i < xs.length := by omega
    have i2 : i < ys.length := by omega
    exact ⟨xs, ys, xs[i], ys[i], h1, e2.sqt hy, by simp [i1], by simp [i2]⟩
  · obtain ⟨fs, xs, rfl, h1, h2⟩ := rd Y2 S2 H2 es e2 g2 h
    obtain ⟨T, x1, y1, rfl, hT, rfl, k1, k2⟩ := hx
    obtain ⟨d1, m1, r1⟩ := h2.get' (k1 xs h1)
    obtain ⟨d2, m2, r2⟩ := (ry.mono e2).get' (k2 ys (e2.sqt hy))
    exact ⟨.tup [d1, d2], zipD_get m1 m2, Ext.new hT, g2.new hT, fun c o q => by rw [upd_ne (ne_of_none q hT)]; exact q, Rep.newT hT (.cons r1 (.cons r2 .nil))⟩
theorem pi_zip {X : Cx} {U : Wh} {e e2 : Expr} {F G : FE} {p pos tpos : Pos} {elts : List Expr} {kk : Nat} (ha : PeF X U e F) (hb : PeF X U e2 G) (hm : X.mg "zip" = none) (hg : Gl X "zip" := by rfl)
    (hs : starEach [e, e2] X.env = (false, eval e X.env) :: starEach [e2] X.env := by rfl) (hpl : (backTo pos (starEach [e2] X.env)).any (·.1) = false := by rfl)
    (h2 : starEach (e2 :: []) X.env = (false, eval e2 X.env) :: starEach [] X.env := by rfl) : PiF X U (.Tuple elts kk tpos) (.Call (.Name "zip" p) [e, e2] [] pos) (iZip F G) := by
  obtain ⟨ta, p1, q1⟩ := ha
  obtain ⟨tb, p2, q2⟩ := hb
  refine ⟨_, pi_zipM hg hm (pa_cons p1 (pa_cons p2 pa_nil h2) hs) hs hpl, fun Y S H σ ρ R g rs h => q1 Y S H σ ρ _ g rs ((Pst.bind h).imp fun x S1 Y1 H1 e1 g1 h1 v rv => q2 Y1 S1 H1 σ ρ _ g1 (rs.mono e1) ((Pst.bind h1).imp fun y S2 Y2 H2 e2 g2 h2 w rw_ => ?_))⟩
  have rv2 := rv.mono e2
  split at h2
  · rename_i n ts
    split at h2
    · rename_i es hS
      cases rv2 with
      | loc hl =>
        cases rw_ with
        | tup hs hr =>
          obtain ⟨xs, m1, m2⟩ := g2.at' n _ _ hS hl
          refine ⟨_, _, xs, _, rfl, .inl (.inl m1), hs, h2.now g2 _ (walk_zipC hs hr fun Y3 S3 H3 es3 e3 g3 h3 => ?_)⟩
          unfold items at h3
          dsimp only at h3
          cases q : lvL n S3 with
          | none => rw [q] at h3; cases h3
          | some fs =>
            rw [q] at h3
            dsimp only [Option.map] at h3
            split at h3
            · cases h3
              unfold lvL at q
              split at q
              · rename_i q'
                cases q
                obtain ⟨xs3, k1, k2⟩ := g3.at' n _ _ q' (ext_loc e3 hl)
                exact ⟨_, xs3, rfl, .inl (.inl k1), k2⟩
              · cases q
            · cases h3
    · exact h2.elim
  · rename_i es ts
    cases rw_ with
    | tup hs hr =>
      obtain ⟨a, xs, rfl, k1, k2⟩ := lst_read (S := S2) g2 rv2 rfl
      refine ⟨a, _, xs, _, rfl, k1, hs, h2.now g2 _ (walk_zipC hs hr fun Y3 S3 H3 es3 e3 g3 h3 => ?_)⟩
      cases h3
      obtain ⟨a', xs', e', k1', k2'⟩ := lst_read (S := S3) g3 (rv2.mono e3) rfl
      cases e'
      exact ⟨es, xs', rfl, k1', k2'⟩
  · exact h2.elim
end WF

set_option Elab.async false
set_option linter.all false
set_option maxRecDepth 100000
set_option maxHeartbeats 4000000
/-! # Rules12: int(..), str(..), xs.index(..) -/
namespace WF
open PySem L2 PyProof.Rows
section
variable {X : Cx} {U : Wh}
theorem digit_text : ∀ c : Nat, 48 ≤ c → c ≤ 57 → PySem.intText? (sv [c]) = some ((c : Int) - 48) := by
  intro c h1 h2
  have : c = 48 ∨ c = 49 ∨ c = 50 ∨ c = 51 ∨ c = 52 ∨ c = 53 ∨ c = 54 ∨ c = 55 ∨ c = 56 ∨ c = 57 := by omega
  rcases this with e | e | e | e | e | e | e | e | e | e <;> subst e <;> decide +kernel
theorem digit_str : ∀ i : Int, 0 ≤ i → i ≤ 9 → (PySem.Str.ofString (toString i)) = sv [i.toNat + 48] := by
  intro i h1 h2
  have : i = 0 ∨ i = 1 ∨ i = 2 ∨ i = 3 ∨ i = 4 ∨ i = 5 ∨ i = 6 ∨ i = 7 ∨ i = 8 ∨ i = 9 := by omega
  rcases this with e | e | e | e | e | e | e | e | e | e <;> subst e <;> decide +kernel
theorem CallR.or {f : Value} {r1 r2 : List V → Hp → VK → Prop} (h1 : CallR X f r1) (h2 : CallR X f r2) : CallR X f (fun xs H Q => r1 xs H Q ∨ r2 xs H Q) :=
  fun pins s σ H xs us Q I r h => h.elim (h1 pins s σ H xs us Q I r) (h2 pins s σ H xs us Q I r)
theorem c_int : CallF X U (.type "int") (f1 bInt) := by
  refine ⟨_, CallR.or call_int1 call_int_str, fun Y S H ds xs Q g r h => ?_⟩
  unfold f1 at h
  split at h
  · cases r with
    | cons ra rn =>
      cases rn
      unfold bInt at h
      split at h
      · cases ra
        exact .inl (.inl ⟨_, rfl, h.val g (.int _)⟩)
      · cases ra
        exact .inl (.inr ⟨_, rfl, h.val g (.int _)⟩)
      · rename_i c
        cases ra
        obtain ⟨hc, h⟩ := ite_ok h
        exact .inr ⟨_, _, rfl, digit_text c hc.1 hc.2, by simp [PySem.Str.length], h.val g (.int _)⟩
      · exact h.elim
  · exact h.elim
theorem c_strI : CallF X U (.type "str") (f1 bStrI) := by
  refine ⟨_, call_str_int, fun Y S H ds xs Q g r h => ?_⟩
  unfold f1 at h
  split at h
  · cases r with
    | cons ra rn =>
      cases rn
      unfold bStrI at h
      split at h
      · rename_i i
        cases ra
        obtain ⟨hc, h⟩ := ite_ok h
        refine ⟨i, rfl, ?_, ?_⟩
        · have : i.natAbs ≤ 9 := by omega
          have : i.natAbs.log2 ≤ i.natAbs := Nat.log2_le_self _
          omega
        · have e := digit_str i hc.1 hc.2
          have := h.val g (.str [i.toNat + 48])
          first
            | (rw [← e] at this; exact this)
            | simpa [← e] using this
      · exact h.elim
  · exact h.elim
theorem strOk_ascii {s : Cs} (h : (s.all fun c => decide (c < 128)) = true) : PyData.strOk (sv s) = true := by
  rw [List.all_eq_true] at h
  unfold PyData.strOk
  simp only [Array.all_eq_true', List.mem_toArray]
  intro c hc
  have := h c hc
  simp only [decide_eq_true_eq] at this
  simp
  omega
mutual
theorem canLay_toPy : ∀ d : D, d.ascii = true → (toPy d).canLay0 = true
  | .non, _ => rfl
  | .bl _, _ => rfl
  | .int _, _ => rfl
  | .str s, h => strOk_ascii (by simpa [D.ascii] using h)
  | .tup ds, h => by simp only [toPy, PyData.canLay0]; exact canLay_toPys ds (by simpa [D.ascii] using h)
  | .lst ds, h => by simp only [toPy, PyData.canLay0]; exact canLay_toPys ds (by simpa [D.ascii] using h)
  | .loc _, _ => rfl
  | .fn _ _, _ => rfl
  | .exc _, _ => rfl
theorem canLay_toPys : ∀ ds : List D, D.asciis ds = true → PyData.canLayAll0 (toPys ds) = true
  | [], _ => rfl
  | d :: ds, h => by
    simp only [D.asciis, Bool.and_eq_true] at h
    simp only [toPys, PyData.canLayAll0, canLay_toPy d h.1, canLay_toPys ds h.2, Bool.and_self]
end
theorem toPys_get : ∀ (ds : List D) (j : Nat), (toPys ds)[j]? = (ds[j]?).map toPy
  | [], j => by simp [toPys]
  | d :: ds, 0 => by simp [toPys]
  | d :: ds, j + 1 => by simp [toPys, toPys_get ds j]
theorem findEq_some {x : D} : ∀ {ds : List D} {j : Nat}, findEq x ds = some j → (∃ d, ds[j]? = some d ∧ d.eqv x = true) ∧ ∀ m d, m < j → ds[m]? = some d → d.eqv x = false
  | [], j, h => by cases h
  | d :: ds, j, h => by
    unfold findEq at h
    split at h
    · rename_i q
      cases h
      exact ⟨⟨d, rfl, q⟩, fun m d' hm => by omega⟩
    · rename_i q
      obtain ⟨i, hi, rfl⟩ := Option.map_eq_some_iff.mp h
      obtain ⟨⟨e, h1, h2⟩, h3⟩ := findEq_some hi
      refine ⟨⟨e, by simpa using h1, h2⟩, fun m d' hm hd => ?_⟩
      cases m with
      | zero =>
        simp at hd
        subst hd
        simpa using q
      | succ m => exact h3 m d' (by omega) (by simpa using hd)
theorem plains_get : ∀ {ds : List D} {j : Nat} {d : D}, D.plains ds = true → ds[j]? = some d → d.plain = true
  | d :: ds, 0, e, h, g => by
    simp at g
    subst g
    simp only [D.plains, Bool.and_eq_true] at h
    exact h.1
  | d :: ds, j + 1, e, h, g => by
    simp only [D.plains, Bool.and_eq_true] at h
    exact plains_get h.2 (by simpa using g)
  | [], _, _, _, g => by simp at g
theorem plain_res {S : Store} {d : D} (h : d.plain = true) : res S d = d := by
  cases d <;> first | rfl | simp [D.plain] at h
theorem pf_index {o e : Expr} {F G : FE} {apos cpos : Pos} (hu : X.A.units + 65 < cLine) (ho : PeF X U o F) (he : PeF X U e G)
    (hbase : attributeBase o "index" X.env (eval o X.env) = eval o X.env := by rfl)
    (hfew : ((backTo cpos (starEach (e :: []) X.env)).all (fun x => !x.1) && (backToKw cpos (keywordEach [] X.env)).all (fun x => x.1.isSome)
      && decide ((e :: []).length + ([] : List Keyword).length + (if ([] : List Keyword).isEmpty then 0 else 1) < 30)) = true := by rfl)
    (hline : (apos.endLine == cpos.line) = true := by rfl) (hs : starEach (e :: []) X.env = (false, eval e X.env) :: starEach [] X.env := by rfl) (hplain : (backTo cpos (starEach [] X.env)).any (·.1) = false := by rfl) :
    PeF X U (.Call (.Attribute o "index" apos) [e] [] cpos) (dIndex F G) := by
  obtain ⟨to, p1, q1⟩ := ho
  obtain ⟨te, p2, q2⟩ := he
  refine ⟨_, pe_bm PySem.F.plainAttrs_list PySem.F.slot_list_index PySem.F.type_list_index (mt_indexD hu) p1 (pa_cons p2 pa_nil hs) hbase hfew hline hs hplain, fun Y S H σ ρ Q g rs h => q1 Y S H σ ρ _ g rs ((Pst.bind h).imp fun d S1 Y1 H1 e1 g1 h1 v rv => ?_)⟩
  split at h1
  · rename_i ds1 hl1
    obtain ⟨a, xs1, rfl, k1, k2⟩ := lstOf_read g1 rv hl1
    refine ⟨.inl ⟨rfl, xs1, k1⟩, q2 Y1 S1 H1 σ ρ _ g1 (rs.mono e1) ((Pst.bind h1).imp fun y S2 Y2 H2 e2 g2 h2 w rw_ => ?_)⟩
    split at h2
    · rename_i ds hl
      obtain ⟨a', xs, ea, m1, m2⟩ := lstOf_read g2 (rv.mono e2) hl
      cases ea
      obtain ⟨hc, h2⟩ := ite_ok h2
      simp only [Bool.and_eq_true, decide_eq_true_eq] at hc
      obtain ⟨⟨⟨⟨⟨c1, c2⟩, c3⟩, c4⟩, c5⟩, c6⟩ := hc
      split at h2
      · rename_i j hj
        obtain ⟨⟨z, z1, z2⟩, z3⟩ := findEq_some hj
        have dpl : Dp X.K H2 (V.ref a) (.list (toPys ds)) := .lst m1 (m2.dp c2)
        refine ⟨a, w, toPy y, toPys ds, j, toPy z, rfl, rfl, dpl, rw_.dp c1, ?_, ?_, ?_, ?_, ?_, h2.val g2 (.int _)⟩
        · unfold SeqAt.shaped
          simp only [Bool.and_eq_true, decide_eq_true_eq]
          refine ⟨by simp only [PyData.canLay0]; exact canLay_toPys ds c6, ?_⟩
          simp only [PyData.depth, toPys_depth]
          omega
        · unfold SeqAt.shaped
          simp only [Bool.and_eq_true, decide_eq_true_eq, toPy_depth]
          exact ⟨canLay_toPy y c5, by omega⟩
        · rw [toPys_get, z1]; rfl
        · rw [toPy_eqv z y (plains_get c2 z1) c1]; exact z2
        · intro m z' hm hz
          rw [toPys_get] at hz
          obtain ⟨d', h5, rfl⟩ := Option.map_eq_some_iff.mp hz
          rw [toPy_eqv d' y (plains_get c2 h5) c1]
          exact z3 m d' hm h5
      · exact h2.elim
    · exact h2.elim
  · exact h1.elim
end
end WF

set_option Elab.async false
set_option linter.all false
set_option maxRecDepth 100000
set_option maxHeartbeats 4000000
/-! # Rules13: a dict display of one pair; d.get(k, x); is True, is False; text * int -/
namespace WF
open PySem L2 PyProof.Rows
section
variable {X : Cx} {U : Wh} {a b : Expr} {Fa Fb : FE} {pos : Pos}
def tDisp1 (X : Cx) (U : Wh) (ta tb : TE) : TE := fun σ H Q => ∀ p, H p = none → ta σ (upd H p (DictX (kwX X U) p [])) fun x H1 => tb σ H1 fun y H2 => H2 p = some (DictX (kwX X U) p []) ∧
  ∃ Y k nk b, x = .ref b ∧ Rep (kwX X U) Y H2 k (.ref b) ∧ keyOf k = some nk ∧ nk.depth ≤ 8 ∧ ∀ u, RelV y u → Q (.ref p) (upd H2 p (DictX (kwX X U) p [(nk, b, u)]))
theorem pe_disp1 {ta tb : TE} (hu : X.A.units + 64 < cLine) (ha : PE X a ta) (hb : PE X b tb) : PE X (.Dict [some a] [b] pos) (tDisp1 X U ta tb) := by
  refine ⟨fun pins s σ H Q I h => ?_⟩
  have hn := I.hok.fresh (Nat.le_refl s.heap.objs.size)
  have big : (s.heap.objs.size == sysModules) = false := beq_false_of_ne (Nat.ne_of_gt I.big)
  have I1 : Inv X pins σ (upd H s.heap.objs.size (DictX (kwX X U) s.heap.objs.size [])) { s with heap := s.heap.push { cls := .type "dict", data := .dict #[] } } :=
    I.laid (a := s.heap.objs.size) (t' := s.toks) (fun _ _ q => Heap.get?_push_of_some _ q) (Nat.le_refl _) (dict_new big (Heap.DictOfH.new s.heap))
  have hshape : (evalEachOpt [some a] X.env).zip ((evalEach [b] X.env).map fun v => do let x ← v; standAt pos; pure x) = [(eval a X.env, do let x ← eval b X.env; standAt pos; pure x)].map fun p => (some p.1, p.2) := rfl
  rw [arm_eval_Dict, hshape, dictDisplay_pairs [(eval a X.env, do let x ← eval b X.env; standAt pos; pure x)] (by simp) (by simp)]
  refine wpAny_bind (wpAny_standAt (wpAny_bind (wpAny_subDictH (knd := nestedKind X.prog X.w) (show X.A.units + 8 < cLine by omega) (by simp) ?_)))
  refine evalPairs_cons (thn (ha.run pins _ σ _ _ I1 (h _ hn)) fun u s1 ⟨x, H1, I2, rx, q1⟩ => wpAny_bind (thn (hb.run pins s1 σ H1 _ I2 q1) fun w s2 ⟨y, H2, I3, ry, hp, Y, k, nk, c, ex, rk, hk, hd, q⟩ => wpAny_bind (wpAny_standAt (wpAny_pure (evalPairs_nil ?_)))))
  subst ex
  obtain rfl := rx
  obtain ⟨h0, hm⟩ := dict_of (kvs := []) (Y := Y) I3 hp .nil
  refine ⟨[(nk, c, w)], ⟨rfl, rfl, ⟨nested_of I3 rk hk rfl, hd⟩, trivial⟩, hm, fun h' tk hm' hs => wpAny_pure ?_⟩
  have e : storedAllH [] [(nk, c, w)] = [(nk, c, w)] := rfl
  rw [e] at hm'
  have he : ∃ z, h'.get? s.heap.objs.size = some z := by
    obtain ⟨z, _, _, hz, _⟩ := hm'
    exact ⟨z, hz⟩
  exact ⟨.ref s.heap.objs.size, _, I3.write (e := s.heap.objs.size) (t' := tk) (by rw [hp]; trivial) (.inl rfl) (fun c z hc hz => (hs.2 c hc).trans hz) he (dict_new h0 hm'), rfl, q w ry⟩
theorem pf_dict1 (hu : X.A.units + 64 < cLine) (ha : PeF X U a Fa) (hb : PeF X U b Fb) : PeF X U (.Dict [some a] [b] pos) (dDict1 Fa Fb) := by
  obtain ⟨ta, p1, q1⟩ := ha
  obtain ⟨tb, p2, q2⟩ := hb
  refine ⟨_, pe_disp1 (U := U) hu p1 p2, fun Y S H σ ρ Q g rs h p hp => ?_⟩
  have e0 : Ext Y H (Y.hide p) (upd H p (DictX (kwX X U) p [])) := ext_hide hp
  have hpl : p ∉ Y.loc := fun z => g.there p (Y.sub p z) hp
  unfold dDict1 at h
  refine q1 (Y.hide p) S _ σ ρ _ (good_hide g hp) (rs.mono e0) ?_
  cases ea : Fa ρ S with
  | un => rw [ea] at h; exact h
  | ex c T => rw [ea] at h; exact Pst.mono (r := (.ex c T : Res D)) (Φ := fun _ _ _ _ => True) h e0
  | ok d S1 =>
  rw [ea] at h
  simp only [Res.ok_bind] at h
  intro Y1 H1 e1 g1 x rx
  refine q2 Y1 S1 H1 σ ρ _ g1 ((rs.mono e0).mono e1) ?_
  cases eb : Fb ρ S1 with
  | un => rw [eb] at h; exact h
  | ex c T => rw [eb] at h; exact Pst.mono (r := (.ex c T : Res D)) (Φ := fun _ _ _ _ => True) h (e0.trans e1)
  | ok d2 S2 =>
  rw [eb] at h
  simp only [Res.ok_bind] at h
  intro Y2 H2 e2 g2 y ry
  have e12 := e1.trans e2
  have hH : H2 p = some (DictX (kwX X U) p []) := e12.keep p _ upd_same hpl (fun _ z => nomatch z)
  have hpl2 : p ∉ Y2.loc := fun z => by
    rcases e12.newl p z with q | q
    · exact hpl q
    · rw [upd_same] at q; cases q
  obtain ⟨hc, h⟩ := ite_ok h
  have rx2 := rx.mono e2
  obtain ⟨c, nk, rfl, k1, k2⟩ := key_read rx2 hc
  refine ⟨hH, Y2, d, nk, c, rfl, rx2, k1, k2, fun u ru => ?_⟩
  have nt : ∀ xs, ¬ Rd H2 p (.tup xs) := fun xs q => by
    rcases q with q | ⟨o, q⟩
    · rw [hH] at q; cases q
    · rw [hH] at q; cases q
  have vp : Y2.vol p := e12.vol p (.inr rfl)
  -- the dict joins the store's objects
  let Y3 : Lay := ⟨Y2.loc ++ [p], Y2.vol, fun a q => by
    rcases List.mem_append.mp q with z | z
    · exact Y2.sub a z
    · rw [List.mem_singleton.mp z]; exact vp⟩
  have eV : ExtV Y2 H2 Y3 (upd H2 p (DictX (kwX X U) p [(nk, c, u)])) :=
    ⟨⟨[p], rfl⟩, fun a w q n _ => by rw [upd_ne fun (z : a = p) => n (z ▸ vp)]; exact q, fun a xs q => by
      have : a ≠ p := fun z => nt xs (z ▸ q)
      unfold Rd
      rw [upd_ne this]
      exact q, fun a q => .inl q⟩
  have eX : Ext Y H Y3 (upd H2 p (DictX (kwX X U) p [(nk, c, u)])) := by
    have e3 := e0.trans e12
    obtain ⟨m, em⟩ := e3.pre
    refine ⟨⟨m ++ [p], by show Y2.loc ++ [p] = _; rw [em, List.append_assoc]⟩, e3.vol, fun a w q n ht => ?_, fun a xs q => eV.tups a xs (e3.tups a xs q), e3.fresh, fun a q => ?_, fun a q => ?_, fun a od w q => ?_⟩
    · rw [upd_ne (ne_of_none q hp)]
      exact e3.keep a w q n ht
    · rcases List.mem_append.mp q with z | z
      · exact e3.newl a z
      · rw [List.mem_singleton.mp z]; exact .inr hp
    · by_cases z : a = p
      · rw [z, upd_same] at q; cases q
      · rw [upd_ne z] at q; exact e3.dom a q
    · rw [upd_ne (ne_of_none q hp)]
      exact e3.frz a od w q
  have gX : Good (kwX X U) Y3 (S2 ++ [.dict [(d, d2)]]) (upd H2 p (DictX (kwX X U) p [(nk, c, u)])) := by
    refine ⟨?_, ?_, fun n m' a h1 h2 => ?_, fun a ha => ?_, fun x hx => (g2.tabs x hx).mono eV (upd_ne ((g2.tabs x hx).nev vp))⟩
    · show (Y2.loc ++ [p]).length = _
      rw [List.length_append, List.length_append, g2.len]; rfl
    · show (Y2.loc ++ [p]).Nodup
      rw [List.nodup_append]
      exact ⟨g2.nd, by simp, fun a ha b hb => by rw [List.mem_singleton.mp hb]; exact fun z => hpl2 (z ▸ ha)⟩
    · by_cases hn : n < S2.length
      · rw [List.getElem?_append_left hn] at h1
        have h2' : Y2.loc[n]? = some a := by
          have : (Y2.loc ++ [p])[n]? = some a := h2
          rwa [List.getElem?_append_left (by rw [g2.len]; exact hn)] at this
        exact (g2.at' n m' a h1 h2').monoV eV (upd_ne fun z => hpl2 (z ▸ List.mem_of_getElem? h2'))
      · have hn' : S2.length ≤ n := by omega
        rw [List.getElem?_append_right hn'] at h1
        have h2' : (Y2.loc ++ [p])[n]? = some a := h2
        rw [List.getElem?_append_right (by rw [g2.len]; exact hn'), g2.len] at h2'
        have z : n - S2.length = 0 := by
          have := (List.getElem?_eq_some_iff.mp h1).1
          simpa using this
        rw [z] at h1 h2'
        simp at h1 h2'
        subst h1; subst h2'
        exact ⟨[(nk, c, u)], upd_same, by show 1 ≤ sizeLine; decide, .cons k1 k2 (rx2.monoV eV) ru (ry.monoV eV) .nil⟩
    · by_cases q : a = p
      · rw [q, upd_same]; exact fun z => nomatch z
      · rw [upd_ne q]
        exact g2.there a ha
  refine h Y3 _ eX gX _ (.loc ?_)
  show (Y2.loc ++ [p])[S2.length]? = some p
  rw [← g2.len]
  simp
/-! ### d.get(k, x) -/
def rKGet (X : Cx) (U : Wh) : V → List V → Hp → VK → Prop := fun x xs H Q => ∃ Y kvs ys k nk y z, xs = [y, z] ∧ AtD X U Y H kvs ys k nk y x ∧
  (∀ d, getKD kvs k = some d → ∀ v, Rep (kwX X U) Y H d v → Q v H) ∧ (getKD kvs k = none → Q z H)
theorem call_kget {pins : List (Addr × Obj)} {s : Shared} {σ : L2.St} {H : Hp} {x : V} {xs : List V} {v : Value} {us : List Value} {Q : VK} (hu : X.A.units + 64 < cLine) (I : Inv X pins σ H s) (rx : RelV x v) (r : Vals xs us) (h : rKGet X U x xs H Q) :
    wpAny (model X.prog X.w) X.A (call (.builtin "dict.get") (v :: us)) (EP X pins σ Q) X.xe s := by
  obtain ⟨Y, kvs, ys, k, nk, y, z, rfl, ⟨a, b, rfl, rfl, h1, h2, h3, h4, h5⟩, q1, q2⟩ := h
  obtain rfl := rx
  cases r with
  | cons ry r =>
    cases r with
    | cons rz r =>
      cases r
      obtain rfl := ry
      obtain ⟨h0, hm⟩ := dict_of I h1 h2
      refine call_meetsIn PySem.F.slot_dict_get hm.typeIs PySem.F.entry_dict_get (PySem.F.args_dict_get_3 _ _ _) (meetsH_dict_get_default (nestedKind X.prog X.w) a b h0 _) ⟨room_in1 hu, nk, ys, ⟨nested_of I h3 h4 rfl, h5⟩, hm, ?_⟩
      have e := h2.get h4
      cases g : getKD kvs k with
      | none =>
        rw [g] at e
        rw [e]
        exact ⟨z, H, I.tok _, rz, q2 g⟩
      | some d =>
        rw [g] at e
        obtain ⟨p, w, e1, e2, e3⟩ := e
        rw [e1]
        exact ⟨w, H, I.tok _, e2, q1 d g w e3⟩
def tKGet (X : Cx) (U : Wh) (to : TE) (t : TA) : TE := fun σ H Q => to σ H fun x H1 => (∃ Y a kvs ys, x = .ref a ∧ H1 a = some (DictX (kwX X U) a ys) ∧ RepKV (kwX X U) Y H1 kvs ys) ∧ t σ H1 fun xs H2 => rKGet X U x xs H2 Q
theorem pe_kget {o e : Expr} {es : List Expr} {to : TE} {t : TA} {apos cpos : Pos} (hu : X.A.units + 64 < cLine) (ho : PE X o to) (ha : PA X (e :: es) t)
    (hbase : attributeBase o "get" X.env (eval o X.env) = eval o X.env := by rfl)
    (hfew : ((backTo cpos (starEach (e :: es) X.env)).all (fun x => !x.1) && (backToKw cpos (keywordEach [] X.env)).all (fun x => x.1.isSome)
      && decide ((e :: es).length + ([] : List Keyword).length + (if ([] : List Keyword).isEmpty then 0 else 1) < 30)) = true := by rfl)
    (hline : (apos.endLine == cpos.line) = true := by rfl) (hs : starEach (e :: es) X.env = (false, eval e X.env) :: starEach es X.env := by rfl) (hplain : (backTo cpos (starEach es X.env)).any (·.1) = false := by rfl) :
    PE X (.Call (.Attribute o "get" apos) (e :: es) [] cpos) (tKGet X U to t) := by
  refine ⟨fun pins s σ H Q I h => wpAny_Call_method_late hbase hfew hline rfl (thn (ho.run pins s σ H _ I h) fun v s1 ⟨x, H1, I1, r1, ty, q1⟩ => ?_)⟩
  obtain ⟨Y, a, kvs, ys, rfl, hka, hkv⟩ := ty
  obtain ⟨h0, hm⟩ := dict_of I1 hka hkv
  obtain rfl := r1
  refine ⟨"dict", "dict.get", PySem.F.plainAttrs_dict, PySem.F.slot_dict_get, PySem.F.type_dict_get, hm.typeIs, ?_, ?_⟩
  · intro b q
    cases q
    obtain ⟨ob, _, _, h1, h2, _⟩ := hm
    exact ⟨ob, h1, h2.2.1⟩
  have hA := ha.run cpos pins s1 σ H1 _ I1 q1
  rw [hs] at hA ⊢
  refine Calls.callWith_builtin (by show (false || (backTo cpos (starEach es X.env)).any (·.1)) = false; rw [hplain] <;> rfl) (Calls.evalArgs_plain ?_)
  exact thn hA fun us s2 ⟨vs, H2, I2, r2, q2⟩ => call_kget (x := .ref a) hu I2 rfl r2 q2
theorem pf_kget {o e e2 : Expr} {Fo Fe Fd : FE} {apos cpos : Pos} (hu : X.A.units + 64 < cLine) (ho : PeF X U o Fo) (he : PeF X U e Fe) (he2 : PeF X U e2 Fd)
    (hbase : attributeBase o "get" X.env (eval o X.env) = eval o X.env := by rfl)
    (hfew : ((backTo cpos (starEach (e :: [e2]) X.env)).all (fun x => !x.1) && (backToKw cpos (keywordEach [] X.env)).all (fun x => x.1.isSome)
      && decide ((e :: [e2]).length + ([] : List Keyword).length + (if ([] : List Keyword).isEmpty then 0 else 1) < 30)) = true := by rfl)
    (hline : (apos.endLine == cpos.line) = true := by rfl) (hs : starEach (e :: [e2]) X.env = (false, eval e X.env) :: starEach [e2] X.env := by rfl) (hplain : (backTo cpos (starEach [e2] X.env)).any (·.1) = false := by rfl)
    (hs2 : starEach (e2 :: []) X.env = (false, eval e2 X.env) :: starEach [] X.env := by rfl) :
    PeF X U (.Call (.Attribute o "get" apos) [e, e2] [] cpos) (dGetOr Fo Fe Fd) := by
  obtain ⟨to, p1, q1⟩ := ho
  obtain ⟨te, p2, q2⟩ := he
  obtain ⟨td, p3, q3⟩ := he2
  refine ⟨_, pe_kget (U := U) hu p1 (pa_cons p2 (pa_cons p3 pa_nil hs2) hs) hbase hfew hline hs hplain, fun Y S H σ ρ Q g rs h => q1 Y S H σ ρ _ g rs ((Pst.bind h).imp fun x S1 Y1 H1 e1 g1 h1 v rv => ?_)⟩
  split at h1
  · rename_i kvs1 hk1
    obtain ⟨n, a, xs1, rfl, _, _, rfl, m1, m2, m3⟩ := dict_read g1 rv hk1
    refine ⟨⟨Y1, a, kvs1, xs1, rfl, m1, m3⟩, q2 Y1 S1 H1 σ ρ _ g1 (rs.mono e1) ((Pst.bind h1).imp fun y S2 Y2 H2 e2 g2 h2 w rw_ => q3 Y2 S2 H2 σ ρ _ g2 ((rs.mono e1).mono e2) ((Pst.bind h2).imp fun z S3 Y3 H3 e3 g3 h3 u ru => ?_))⟩
    split at h3
    · rename_i kvs hk
      obtain ⟨hc, h3⟩ := ite_ok h3
      obtain ⟨n', a', xs, en, _, _, ea, k1, k2, k3⟩ := dict_read g3 ((rv.mono e2).mono e3) hk
      cases ea
      have rw3 := rw_.mono e3
      obtain ⟨b, nk, rfl, l1, l2⟩ := key_read rw3 hc
      refine ⟨Y3, kvs, xs, y, nk, _, u, rfl, ⟨a, b, rfl, rfl, k1, k3, rw3, l1, l2⟩, fun d hd v' rv' => ?_, fun hn => ?_⟩
      · rw [hd] at h3
        exact h3.val g3 rv'
      · rw [hn] at h3
        exact h3.val g3 ru
    · exact h3.elim
  · exact h1.elim
/-! ### is, of truth values -/
theorem o_isB : OpF X U (compareOp .Is) gIsB := by
  refine ⟨_, op_is_bl, fun Y S H a b x y Q g ra rb h => ?_⟩
  unfold gIsB at h
  split at h
  · rename_i k l
    cases ra
    cases rb
    refine ⟨k, l, rfl, rfl, ?_⟩
    have := h.val g (.bl (k == l))
    cases k <;> cases l <;> exact this
  · exact h.elim
theorem o_notB : OpF X U (compareOp .IsNot) gNotB := by
  refine ⟨_, op_isnot_bl, fun Y S H a b x y Q g ra rb h => ?_⟩
  unfold gNotB at h
  split at h
  · rename_i k l
    cases ra
    cases rb
    refine ⟨k, l, rfl, rfl, ?_⟩
    have := h.val g (.bl (!(k == l)))
    cases k <;> cases l <;> exact this
  · exact h.elim
/-! ### a text times an int -/
theorem rep_fold (s : Cs) : ∀ (n : Nat) (acc : Array Nat), ((List.replicate n s.toArray).foldl (· ++ ·) acc) = acc ++ (rep n s).toArray
  | 0, acc => by simp [rep]
  | n + 1, acc => by
    rw [List.replicate_succ, List.foldl_cons, rep_fold s n]
    simp [rep, List.replicate_succ]
def rRepS : R2 := fun x y H Q => ∃ (s : Cs) (j : Int), x = .str (sv s) ∧ y = .int j ∧ 2 ≤ j ∧ j ≤ 1000 ∧ s.isEmpty = false ∧ s.length ≤ 1000 ∧ Q (.str (sv (rep j.toNat s))) H
theorem op_repS : OpR X (binaryOp .Mult) rRepS := by
  intro pins s σ H x y v u Q I rx ry h
  obtain ⟨t, j, rfl, rfl, h1, h2, h3, h4, q⟩ := h
  obtain ⟨t1, rfl⟩ := rx
  obtain ⟨t2, rfl⟩ := ry
  have hl : (sv t).length = t.length := by simp [PySem.Str.length]
  have h0 : 0 < t.length := by
    cases t with
    | nil => cases h3
    | cons _ _ => simp
  have n1 : ¬ j < 1 := by omega
  have n2 : (j == 1 || (sv t).length == 0) = false := by
    rw [hl]
    simp
    constructor
    · omega
    · intro z; rw [z] at h0; simp at h0
  have hm : t.length * j.toNat ≤ 1000 * 1000 := Nat.mul_le_mul h4 (by omega)
  refine PySem.P.mul_str ?_ (fun _ _ => ?_) (fun _ _ => ?_) ?_
  · have a1 : ¬ j < -(2 ^ 63 : Int) := by omega
    have a2 : ¬ j ≥ 2 ^ 63 := by omega
    rw [decide_eq_false a1, decide_eq_false a2]; rfl
  · rw [hl]
    have : (1000 : Int) ≤ (2 ^ 63 - 1) / j := by
      rw [Int.le_ediv_iff_mul_le (by omega)]
      omega
    omega
  · rw [hl]
    exact decide_eq_false (by
      show ¬ (t.length * j.toNat > sizeLine)
      rw [sizeLine_eq]
      omega)
  · rw [if_neg n1, if_neg (by rw [n2]; exact Bool.false_ne_true)]
    have e : (⟨(List.replicate j.toNat (sv t).cps).foldl (· ++ ·) #[]⟩ : PySem.Str) = sv (rep j.toNat t) := by
      rw [rep_fold]
      simp
    rw [e]
    refine ⟨?_, .str (sv (rep j.toNat t)), H, I.tok _, ⟨_, rfl⟩, q⟩
    first
      | (show (sv (rep j.toNat t)).length ≤ sizeLine
         have hz : (sv (rep j.toNat t)).length = j.toNat * t.length := by simp [PySem.Str.length, rep]
         rw [hz, sizeLine_eq, Nat.mul_comm]
         omega)
      | (show ((sv (rep j.toNat t)).length > sizeLine) = false
         simp)
theorem o_rep : OpF X U (binaryOp .Mult) gRep := by
  refine ⟨_, op_repS, fun Y S H a b x y Q g ra rb h => ?_⟩
  unfold gRep at h
  split at h
  · rename_i s j
    cases ra
    cases rb
    obtain ⟨hc, h⟩ := ite_ok h
    exact ⟨s, j, rfl, rfl, hc.1, hc.2.1, hc.2.2.1, hc.2.2.2, h.val g (.str _)⟩
  · exact h.elim
end
/-- a class's body -/
def clsB : Stmt → List Stmt
  | .ClassDef _ _ _ b _ _ _ _ _ _ _ => b
  | _ => []
theorem CxOk.hu5 {X : Cx} {U : Wh} {k : Nat} (C : CxOk X U k) : X.A.units + 65 < cLine := by
  have := C.room.un
  omega
section
variable {P : Program} {w : World} {K : PySem.W.Frag} {mg : PySem.Str → Option Value} {base : Heap}
theorem mtd_mk {x qual : PySem.Str} {st : Stmt} {C f : Addr} {fd : FuncData} {N ps : List PySem.Str} {k : Nat} {cl : Cl} {c m : Cs} {F : FS} (Fn : Fun K x qual st f fd) (S : FnScope N ps (defScope st)) (hb : Binds K fd ps [])
    (h1 : PySem.W.nsIn K mainGlobals (sv c) = some (some (.ref C))) (h2 : Cls K C) (h3 : Meth K C (sv m) f)
    (body : ∀ (cdv : Value) (A : Around) (outer : List PySem.Env) (s : Shared) (H : Hp) (E : XK), CxOk (cxOf (L2.CX P w) P w K mg base N qual (defScope st) f cdv A outer s H E) ⟨E, cl⟩ k →
      PssF (cxOf (L2.CX P w) P w K mg base N qual (defScope st) f cdv A outer s H E) ⟨E, cl⟩ (defBody st) F) : MtD P w K mg base cl c m ps.length (k + 1) (runDef N.length F) :=
  ⟨C, f, fd, ps, rfl, fnok_mk Fn S body, hb, h1, h2, h3⟩
theorem ind_mk {x qual : PySem.Str} {st : Stmt} {C f : Addr} {fd : FuncData} {N ps : List PySem.Str} {k : Nat} {cl : Cl} {c : Cs} {F : FS} (Fn : Fun K x qual st f fd) (S : FnScope N ps (defScope st)) (hb : Binds K fd ps [])
    (h1 : PySem.W.nsIn K mainGlobals (sv c) = some (some (.ref C))) (h2 : mg (sv c) = some (.ref C)) (h3 : Mk K C f)
    (body : ∀ (cdv : Value) (A : Around) (outer : List PySem.Env) (s : Shared) (H : Hp) (E : XK), CxOk (cxOf (L2.CX P w) P w K mg base N qual (defScope st) f cdv A outer s H E) ⟨E, cl⟩ k →
      PssF (cxOf (L2.CX P w) P w K mg base N qual (defScope st) f cdv A outer s H E) ⟨E, cl⟩ (defBody st) F) : InD P w K mg base cl c ps.length (k + 1) (runDef N.length F) :=
  ⟨C, f, fd, ps, rfl, fnok_mk Fn S body, hb, h1, h2, h3⟩
end
theorem nm_to {K : PySem.W.Frag} {x : PySem.Str} {c : Cs} {C : Addr} (e : x = sv c) (h : PySem.W.nsIn K mainGlobals x = some (some (.ref C))) : PySem.W.nsIn K mainGlobals (sv c) = some (some (.ref C)) := e ▸ h
theorem mgc_to {mg : PySem.Str → Option Value} {x : PySem.Str} {c : Cs} {C : Addr} (e : x = sv c) (h : mg x = some (.ref C)) : mg (sv c) = some (.ref C) := e ▸ h
theorem fi_to {K : PySem.W.Frag} {x : PySem.Str} {c : Cs} {C : Addr} (e : x = sv c) (h : PySem.W.findIn K (.ref C) x = some none) : NoAttr K C (sv c) := e ▸ h
theorem fm_to {K : PySem.W.Frag} {x : PySem.Str} {c : Cs} {C f : Addr} (e : x = sv c) (h : PySem.W.findIn K (.ref C) x = some (some (.ref f))) : PySem.W.findIn K (.ref C) (sv c) = some (some (.ref f)) := e ▸ h
section
end
end WF

set_option Elab.async false
set_option linter.all false
set_option maxRecDepth 100000
set_option maxHeartbeats 4000000
/-! # Rules14: lambdas -/
namespace WF
open PySem PySem.Spec L2 PyProof.Rows
section
variable {X : Cx} {U : Wh} {pins : List (Addr × Obj)} {σ : L2.St} {H : Hp} {s : Shared} {Y : Lay} {S : Store}
theorem lamO_ne {a c : Addr} {L : LamI} {cells : List (PySem.Str × Addr)} : ∀ ps : Array Value, LamO a L cells c ≠ .tbl ps := fun ps z => by
  unfold LamO at z
  cases z
/-- a lambda's object, just made, is known from now on -/
theorem inv_lam {L : LamI} {cells : List (PySem.Str × Addr)} {c : Addr} {o : Obj} {t' : Nat} {pm ctv : Value} (I : Inv X pins σ H s) (ho : o = PySem.W.kla_obj "<lambda>" L.qual L.params L.body L.scope cells pm c ctv) :
    Inv X pins σ (upd H s.heap.objs.size (LamO s.heap.objs.size L cells c)) { s with heap := s.heap.push o, toks := t' } := by
  subst ho
  have e : (s.heap.push (PySem.W.kla_obj "<lambda>" L.qual L.params L.body L.scope cells pm c ctv)).get? s.heap.objs.size = some (PySem.W.kla_obj "<lambda>" L.qual L.params L.body L.scope cells pm c ctv) := Heap.get?_push_size _ rfl
  exact I.laid (a := s.heap.objs.size) (fun b u q => Heap.get?_push_of_some _ q) (Nat.le_refl _) ⟨⟨_, _, pm, ctv, e⟩, ⟨_, e⟩, fun h1 h2 ⟨od, sl, p, t, z⟩ st => ⟨od, sl, p, t, st _ z⟩⟩
/-- a code object more in the table -/
theorem good_table {P c' : Addr} {q : PySem.Str} {ps : Array Value} {pos : Pos} (g : Good (kwX X U) Y S H) (hu : ∀ p ∈ U.cl.tab, p.1 = P → p.2 = q) (hv : ¬ Y.vol P) (hP : H P = some (.tbl ps)) (ht : TriplesOk ps.toList)
    (ha : ∀ (pos : Pos) (cv : Value), codeAmong pos ps.toList = some cv → ∃ c, cv = .ref c ∧ H c = some (LamX.CodeO c q) ∧ ¬ Y.vol c) (nC : H c' = none) :
    Ext Y H Y (upd (upd H P (.tbl (ps ++ #[rawInt pos.line, rawInt pos.col, .ref c']))) c' (LamX.CodeO c' q)) ∧ Good (kwX X U) Y S (upd (upd H P (.tbl (ps ++ #[rawInt pos.line, rawInt pos.col, .ref c']))) c' (LamX.CodeO c' q)) := by
  have ne : ∀ b u, H b = some u → b ≠ c' := fun b u e => ne_of_none e nC
  have at_ : ∀ b, b ≠ P → b ≠ c' → upd (upd H P (.tbl (ps ++ #[rawInt pos.line, rawInt pos.col, .ref c']))) c' (LamX.CodeO c' q) b = H b := fun b h1 h2 => by rw [upd_ne h2, upd_ne h1]
  have nP : ∀ b u, H b = some u → (∀ qs, u ≠ .tbl qs) → b ≠ P := fun b u e n z => by
    rw [z, hP] at e
    cases e
    exact n ps rfl
  have nvc : ¬ Y.vol c' := fun z => g.there c' z nC
  have e : Ext Y H Y (upd (upd H P (.tbl (ps ++ #[rawInt pos.line, rawInt pos.col, .ref c']))) c' (LamX.CodeO c' q)) := by
    refine ⟨⟨[], by simp⟩, fun _ h => h, fun b u hb _ hn => ?_, fun b xs hb => ?_, fun _ h => .inl h, fun _ h => .inl h, fun b hb => ?_, fun b od u hb => ?_⟩
    · rw [at_ b (nP b u hb hn) (ne b u hb)]; exact hb
    · rcases hb with hb | ⟨o, hb⟩
      · exact .inl (by rw [at_ b (nP b _ hb fun _ z => nomatch z) (ne b _ hb)]; exact hb)
      · exact .inr ⟨o, by rw [at_ b (nP b _ hb fun _ z => nomatch z) (ne b _ hb)]; exact hb⟩
    · by_cases z : b = c'
      · rw [z]; exact nC
      · rw [upd_ne z] at hb
        by_cases z2 : b = P
        · rw [z2, upd_same] at hb; cases hb
        · rw [upd_ne z2] at hb; exact hb
    · rw [at_ b (nP b _ hb fun _ z => nomatch z) (ne b _ hb)]; exact hb
  refine ⟨e, g.len, g.nd, fun n mo a h1 h2 => ?_, fun a hva => ?_, fun p hp => ?_⟩
  · have hva : Y.vol a := Y.sub a (List.mem_of_getElem? h2)
    refine (g.at' n mo a h1 h2).mono e (at_ a (fun z => hv (z ▸ hva)) fun z => nvc (z ▸ hva))
  · have n1 : a ≠ P := fun z => hv (z ▸ hva)
    have n2 : a ≠ c' := fun z => nvc (z ▸ hva)
    rw [at_ a n1 n2]
    exact g.there a hva
  · by_cases hb : p.1 = P
    · rw [hu p hp hb, hb]
      have eL : (ps ++ #[rawInt pos.line, rawInt pos.col, .ref c']).toList = ps.toList ++ [rawInt pos.line, rawInt pos.col, .ref c'] := by simp
      refine ⟨hv, _, by rw [upd_ne (ne P _ hP), upd_same], by rw [eL]; exact PySem.TriplesOk_snoc _ _ _ _ ht, fun p' cv hcv => ?_⟩
      rw [eL] at hcv
      rcases LamX.among_app _ ht hcv with z | z
      · obtain ⟨c0, e1, e2, e3⟩ := ha p' cv z
        exact ⟨c0, e1, by rw [at_ c0 (nP c0 _ e2 codeO_ne) (ne c0 _ e2)]; exact e2, e3⟩
      · exact ⟨c', z, upd_same, nvc⟩
    · refine (g.tabs p hp).mono e.v ?_
      obtain ⟨_, ps', a1, _⟩ := g.tabs p hp
      exact at_ p.1 hb (ne p.1 _ a1)
/-- a lambda is made; from then on the layout bears its object too -/
theorem lam_made {k : Nat} {c P : Addr} {pos : Pos} {E : Value → Shared → Prop} {Q : Value → Shared → Prop} (I : Inv X pins σ H s) (g : Good (kwX X U) Y S H) (TB : LamX.TabB X.base X.mg c P) (hcode : X.env.code = .ref c)
    (hm : (P, (U.cl.lam k).qual) ∈ U.cl.tab) (hu : ∀ p ∈ U.cl.tab, p.1 = P → p.2 = (U.cl.lam k).qual) (hq : (U.cl.lam k).qual = X.env.qual ++ "<lambda>") (hdef : defaultsOf (U.cl.lam k).params X.env = ([], []))
    (hfree : ∀ y ∈ (U.cl.lam k).scope.names, y.2 = .free → ∃ c, X.env.cells.lookup y.1 = some c)
    (h : ∀ (f c' : Addr) (H1 : Hp) (s' : Shared), Inv X pins σ (upd H1 f (LamO f (U.cl.lam k) (cloFrom X.env.cells (U.cl.lam k).scope.names []) c')) s' → (∀ b o, s.heap.get? b = some o → H b = none → s'.heap.get? b = some o) → (∀ b, H b = none → s.heap.get? b ≠ none → H1 b = none) → Ext Y H Y H1 → Good (kwX X U) Y S H1 → H1 f = none → H f = none → s.heap.get? f = none → H1 c' = some (LamX.CodeO c' (U.cl.lam k).qual) → ¬ Y.vol c' → Q (.ref f) s') :
    wpAny (model X.prog X.w) X.A (eval (.Lambda (U.cl.lam k).params (U.cl.lam k).body (U.cl.lam k).scope pos) X.env) Q E s := by
  obtain ⟨hv, ps, hP, ht, ha⟩ := (show TabG Y H P (U.cl.lam k).qual from g.tabs (P, (U.cl.lam k).qual) hm)
  generalize hL : U.cl.lam k = L at *
  refine PySem.W.kla_eval hdef ?_
  rw [← hq]
  have bP : s.heap.BuiltinsAt X.mg P := TB.bm.keeps I.bk
  have hP' : s.heap.get? P = some { cls := .none, data := .fields ps } := I.hok P _ hP
  have none_of : ∀ {h' : Heap} {f : Addr}, s.heap.objs.size ≤ f → s.heap.get? f = none := fun {h' f} hf => Heap.get?_none_of_le hf
  cases hc : codeAmong pos ps.toList with
  | none =>
    refine PySem.W.kla_makeFunction (mg := X.mg) (c := c) (P := P) (ps := ps) (closure_ok hfree) I.ok.glob (I.mod.glob.keeps I.bk) hcode (TB.code.keeps I.bk) hP' ht hc TB.gP bP fun c' ctv h' tk hx hge hlt hrec htb => ?_
    obtain ⟨c2, oc, vs, t, e2, hoc, hd, hvs⟩ := hrec
    cases e2
    have hsz : s.heap.objs.size ≤ h'.objs.size := Nat.le_trans hge (Nat.le_of_lt hlt)
    have nC : H c' = none := I.hok.fresh hge
    have I1 := LamX.inv_table (t' := tk) (more := #[rawInt pos.line, rawInt pos.col, .ref c']) (h' := h') I hP (fun b o hb e => hx b o hb e) htb hge ⟨oc, vs, t, hoc, hd, hvs⟩
    have T1 := good_table (pos := pos) g hu hv hP ht ha nC
    have nF := I1.hok.fresh (Nat.le_refl _)
    have I2 := inv_lam (L := L) (cells := cloFrom X.env.cells L.scope.names []) (c := c') (t' := tk) (pm := (X.mg "__name__").getD .none) (ctv := ctv) I1 rfl
    refine h h'.objs.size c' _ _ I2 (fun b o e n => Heap.get?_push_of_some _ (hx b o (fun z => by rw [z, hP] at n; cases n) e)) (fun b n hb => ?_) T1.1 T1.2 nF (I.hok.fresh hsz) (none_of (h' := h') hsz) upd_same fun z => g.there c' z nC
    · have n1 : b ≠ P := fun z => by rw [z, hP] at n; cases n
      have n2 : b ≠ c' := fun z => hb (by rw [z]; exact none_of (h' := h') hge)
      rw [upd_ne n2, upd_ne n1]
      exact n
  | some cv =>
    obtain ⟨c', e, hco, hcv⟩ := ha pos cv hc
    subst e
    refine PySem.W.kla_makeFunctionHit (mg := X.mg) (c := c) (P := P) (ps := ps) (closure_ok hfree) I.ok.glob (I.mod.glob.keeps I.bk) hcode (TB.code.keeps I.bk) hP' ht hc bP fun ctv h' tk hx hsz => ?_
    have I1 : Inv X pins σ H { s with heap := h', toks := tk } := I.kept hx
    have nF : H h'.objs.size = none := I1.hok.fresh (Nat.le_refl _)
    have I2 := inv_lam (L := L) (cells := cloFrom X.env.cells L.scope.names []) (c := c') (t' := tk) (pm := (X.mg "__name__").getD .none) (ctv := ctv) I1 rfl
    exact h h'.objs.size c' H _ I2 (fun b o e _ => Heap.get?_push_of_some _ (hx b o e)) (fun b n _ => n) Ext.refl g nF (I.hok.fresh hsz) (none_of (h' := h') hsz) hco hcv
end
/-! ### what a lambda promises -/
/-- the object at a is the lambda L -/
def LamAt (L : LamI) (a c : Addr) (cells : List (PySem.Str × Addr)) (h : Heap) : Prop := ∃ (od : Option Addr) (sl : Array (Option Value)) (pm ctv : Value), h.get? a = some (⟨.type "function", od, .func (PySem.W.kla_fn "<lambda>" L.qual L.params L.body L.scope cells pm (.ref c) ctv), sl⟩ : Obj)
structure LmD (P : Program) (w : World) (K : PySem.W.Frag) (mg : PySem.Str → Option Value) (base : Heap) (cl : Cl) (k n j : Nat) (F : FF) : Prop where
  run : ∀ (A : Around) (outer : List PySem.Env) (s : Shared) (H : Hp) (Y : Lay) (S : Store) (a c : Addr) (cells : List (PySem.Str × Addr)) (us : List Value) (vs ws : List V) (ds caps : List D) (Q : VK), Room j A → Env0 P w K mg base A outer s H →
    LamAt (cl.lam k) a c cells s.heap → H c = some (LamX.CodeO c (cl.lam k).qual) → NdefX.CellsAt cells (cl.lam k).fr (ws.map some) s.heap H → Good ⟨P, w, K, cl⟩ Y S H → Vals vs us → RepL ⟨P, w, K, cl⟩ Y H ds vs → RepL ⟨P, w, K, cl⟩ Y H caps ws → ds.length = n →
    Pst ⟨P, w, K, cl⟩ ⟨fun _ _ _ => False, cl⟩ Y H (PD ⟨P, w, K, cl⟩ Q) (F (ds ++ caps) S) → codeAny (model P w) A (.call (.ref a) ⟨us, []⟩) (CR (L2.CX P w) outer P w H s Q fun _ _ _ => False) s
theorem LmD.mono {P : Program} {w : World} {K : PySem.W.Frag} {mg : PySem.Str → Option Value} {base : Heap} {cl : Cl} {k n j j' : Nat} {F : FF} (h : LmD P w K mg base cl k n j F) (hj : j ≤ j') : LmD P w K mg base cl k n j' F :=
  ⟨fun A outer s H Y S a c cells us vs ws ds caps Q hr => h.run A outer s H Y S a c cells us vs ws ds caps Q (hr.mono hj)⟩
abbrev lamNF (L : LamI) (cells : List (PySem.Str × Addr)) (c : Addr) : NdefX.NF := ⟨"<lambda>", L.qual, L.params, [], L.scope, cells, c⟩
section
variable {P : Program} {w : World} {K : PySem.W.Frag} {mg : PySem.Str → Option Value} {base : Heap} {cl : Cl}
theorem repS_startF {KK : KW} {Y : Lay} {H : Hp} {ds caps : List D} {vs ws : List V} {N : List PySem.Str} (r : RepL KK Y H ds vs) (rc : RepL KK Y H caps ws) : RepS KK Y H (startE N.length (ds ++ caps)) (NdefX.startF N vs (ws.map some)) := by
  have e : NdefX.startF N vs (ws.map some) = L2.start N (vs ++ ws) := by
    unfold NdefX.startF L2.start
    rw [List.map_append, List.append_assoc, List.length_append, List.length_map, Nat.sub_add_eq]
  rw [e]
  exact repS_start (r.append rc)
/-- a lambda, by its body -/
theorem lmd_mk {k j : Nat} {N ps : List PySem.Str} {F : FE} (Sc : NdefX.NScope N ps (cl.lam k).fr (cl.lam k).scope)
    (hb : ∀ (q : PySem.Str) (cells : List (PySem.Str × Addr)) (pm cv ctv : Value) (us : List Value), us.length = ps.length → bindArgs (PySem.W.kla_fn "<lambda>" q (cl.lam k).params (cl.lam k).body (cl.lam k).scope cells pm cv ctv) ⟨us, []⟩ = pure (ps.zip us))
    (body : ∀ (A : Around) (outer : List PySem.Env) (s : Shared) (H : Hp) (a c : Addr) (cells : List (PySem.Str × Addr)), CxOk (NdefX.ncx (L2.CX P w) P w K mg base N (lamNF (cl.lam k) cells c) a A outer s H fun _ _ _ => False) ⟨fun _ _ _ => False, cl⟩ j →
      PeF (NdefX.ncx (L2.CX P w) P w K mg base N (lamNF (cl.lam k) cells c) a A outer s H fun _ _ _ => False) ⟨fun _ _ _ => False, cl⟩ (cl.lam k).body F) : LmD P w K mg base cl k ps.length (j + 1) (runLam N.length F) := by
  refine ⟨fun A outer s H Y S a c cells us vs ws ds caps Q hr e0 ho hc C g rv r rc hn hP => ?_⟩
  obtain ⟨od, sl, pm, ctv, ho⟩ := ho
  have hlv : vs.length = ps.length := by rw [← r.len]; exact hn
  have hlu : us.length = ps.length := by rw [← rv.length]; exact hlv
  have lim : s.heap.NoLimit := e0.mod.nolimit.keeps fun b o e => (e0.bs b o e).1
  refine PySem.W.kla_callFunE hr.depth ho rfl Sc.co Sc.gen rfl (NdefX.codeO_at e0.hok hc) ?_
  rw [hb _ cells pm (.ref c) ctv us hlu]
  refine wpAny_pure (wpAny_newFunctionEnv Sc.nocell (fun ⟨m, _⟩ hy => Sc.par m (List.of_mem_zip hy).1) (fun h₁ hns hsb => ⟨lim.fresh _ hsb, ?_⟩) Sc.kind)
  show codeAny _ _ (.expr (cl.lam k).body (NdefX.envF (lamNF (cl.lam k) cells c) a s.heap.objs.size)) _ _
  have kp : ∀ b o, s.heap.get? b = some o → h₁.get? b = some o := fun b o e => hsb.extBut b o (Nat.ne_of_lt (Heap.lt_size e)) (Heap.get?_push_of_some _ e)
  have I : Inv (NdefX.ncx (L2.CX P w) P w K mg base N (lamNF (cl.lam k) cells c) a A outer s H fun _ _ _ => False) [] (NdefX.startF N vs (ws.map some)) H { s with heap := h₁, toks := s.toks + (ps.zip us).length } :=
    NdefX.inv_startN Sc hr.hd e0 hlv rv C hns kp
  have CX0 : CxOk (NdefX.ncx (L2.CX P w) P w K mg base N (lamNF (cl.lam k) cells c) a A outer s H fun _ _ _ => False) ⟨fun _ _ _ => False, cl⟩ j :=
    ⟨rfl, Sc.nd, hr.deeper _, passL, passes_of rfl, takes0⟩
  obtain ⟨t, p, q⟩ := body A outer s H a c cells CX0
  have hq := q Y S H (NdefX.startF N vs (ws.map some)) (startE N.length (ds ++ caps)) Q g (repS_startF r rc) hP
  refine PySem.W.kla_codeExpr (wpAny_mono (p.run [] _ _ H Q I hq) (fun v s' hz => ?_) fun e s' hz => hz)
  obtain ⟨w', H', J', rv', q'⟩ := hz
  exact ⟨w', H', J'.os, J'.bare, J'.base, J'.hok, rv', q'⟩
end
/-! ### made, called -/
section
variable {X : Cx} {U : Wh} {e o : Expr} {es : List Expr} {Fe Fo : FE} {Fs : List FE} {pos apos p : Pos} {j : Nat}
/-- lambda .., nothing captured -/
theorem pf_lam {k : Nat} {c P : Addr} {params : Arguments} {body : Expr} {scope : Scope} (TB : LamX.TabB X.base X.mg c P) (hcode : X.env.code = .ref c) (hm : (P, (U.cl.lam k).qual) ∈ U.cl.tab) (hu : ∀ p ∈ U.cl.tab, p.1 = P → p.2 = (U.cl.lam k).qual)
    (hq : (U.cl.lam k).qual = X.env.qual ++ "<lambda>") (h1 : params = (U.cl.lam k).params := by rfl) (h2 : body = (U.cl.lam k).body := by rfl) (h3 : scope = (U.cl.lam k).scope := by rfl) (hdef : defaultsOf (U.cl.lam k).params X.env = ([], []) := by rfl)
    (hno : ∀ y ∈ (U.cl.lam k).scope.names, y.2 ≠ .free := by decide +kernel) (hcl : ∀ cells, cloFrom cells (U.cl.lam k).scope.names [] = [] := by exact fun _ => rfl) (hfr : (U.cl.lam k).fr = [] := by rfl) : PeF X U (.Lambda params body scope pos) (dLam k) := by
  subst h1 h2 h3
  refine ⟨canonE (kwX X U) U (dLam k), ⟨fun pins s σ H Q I ⟨Y, S, ρ, g, r, hP⟩ => ?_⟩, fun Y S H σ ρ Q g r h => ⟨Y, S, ρ, g, r, h⟩⟩
  refine lam_made I g TB hcode hm hu hq hdef (fun y hy e => absurd e (hno y hy)) fun f c' H1 s' I1 _ _ e1 g1 nf _ _ hco hcv => ⟨.ref f, _, I1, rfl, ?_⟩
  have hne : c' ≠ f := ne_of_none hco nf
  have ea : Ext Y H1 (Y.add f) (upd H1 f (LamO f (U.cl.lam k) (cloFrom X.env.cells (U.cl.lam k).scope.names []) c')) := Ext.add nf
  refine hP _ _ (e1.trans ea) (g1.add nf ⟨[], c', ?_, by rw [upd_ne hne]; exact hco, fun z => ?_, rfl, hfr⟩) _ (.loc ?_)
  · rw [upd_same, hcl]
  · rcases z with z | z
    · exact hcv z
    · exact hne z
  · show (Y.loc ++ [f])[S.length]? = some f
    rw [← g1.len]
    simp
theorem lam_at {H : Hp} {h : Heap} {a c : Addr} {L : LamI} {cells : List (PySem.Str × Addr)} {P : Program} {w : World} (hok : HOk P w H h) (e : H a = some (LamO a L cells c)) : LamAt L a c cells h := by
  obtain ⟨z, _, _⟩ := hok a _ e
  exact z
theorem LamAt.fn {h : Heap} {a c : Addr} {L : LamI} {cells : List (PySem.Str × Addr)} (x : LamAt L a c cells h) : PySem.W.FnAt a h := by
  obtain ⟨od, sl, pm, ctv, ho⟩ := x
  exact ⟨_, od, _, sl, ho⟩
theorem fnOf_some {S : Store} {d : D} {k : Nat} {caps : List D} (h : fnOf S d = some (k, caps)) : ∃ n, d = .loc n ∧ S[n]? = some (.fn k caps) := by
  unfold fnOf at h
  split at h
  · rename_i n
    split at h
    · rename_i k' caps' hS
      cases h
      exact ⟨n, rfl, hS⟩
    · cases h
  · cases h
theorem cells_nil {H : Hp} {h : Heap} : NdefX.CellsAt [] [] [] h H := ⟨rfl, fun y c e => by simp at e, fun x y c e => by simp at e, fun i y e => by simp at e⟩
theorem no_passes {Q : VK} {pins : List (Addr × Obj)} {σ : L2.St} {H : Hp} {s s' : Shared} {r : Result} (C : CxOk X U j) (I : Inv X pins σ H s) (hq : CR (L2.CX X.prog X.w) X.stack X.prog X.w H s Q (fun _ _ _ => False) r s') : match r with
    | .ok (.ret u) => EP X pins σ Q u s'
    | .ok _ => False
    | .error e => X.xe e s' := by
  cases r with
  | error e => exact (passL pins σ H s e s' I hq : X.xe e s')
  | ok fl =>
    cases fl with
    | ret u => exact I.after hq
    | next => exact hq
    | brk => exact hq
    | cont => exact hq
end
/-! ### two heaps that differ where no data lie -/
structure Agr (H H' : Hp) (ex : Addr → Prop) : Prop where
  at_ : ∀ b, ¬ ex b → H' b = H b
  no : ∀ b, ex b → ∀ xs, ¬ Rd H b (.tup xs) ∧ ¬ Rd H b (.lst xs)
section
variable {K : KW} {Y : Lay} {H H' : Hp} {ex : Addr → Prop}
theorem Agr.rdt (A : Agr H H' ex) {b : Addr} {xs : List V} (h : Rd H b (.tup xs)) : Rd H' b (.tup xs) := by
  have hn : ¬ ex b := fun z => (A.no b z xs).1 h
  unfold Rd
  rw [A.at_ b hn]
  exact h
theorem Agr.rdl (A : Agr H H' ex) {b : Addr} {xs : List V} (h : Rd H b (.lst xs)) : Rd H' b (.lst xs) := by
  have hn : ¬ ex b := fun z => (A.no b z xs).2 h
  unfold Rd
  rw [A.at_ b hn]
  exact h
theorem Agr.sqt (A : Agr H H' ex) {b : Addr} {xs : List V} (h : SqT K H b xs) : SqT K H' b xs := by
  rcases h with h | h
  · exact .inl (A.rdt h)
  · exact .inr h
mutual
theorem Rep.agr (A : Agr H H' ex) : ∀ {d : D} {v : V}, Rep K Y H d v → Rep K Y H' d v
  | _, _, .non => .non
  | _, _, .bl b => .bl b
  | _, _, .int i => .int i
  | _, _, .str s => .str s
  | _, _, .tup h r => .tup (A.sqt h) (RepL.agr A r)
  | _, _, .lst h hv r => .lst (A.rdl h) hv (RepL.agr A r)
  | _, _, .lsk h r => .lsk h (RepL.agr A r)
  | _, _, .loc h => .loc h
theorem RepL.agr (A : Agr H H' ex) : ∀ {ds : List D} {vs : List V}, RepL K Y H ds vs → RepL K Y H' ds vs
  | _, _, .nil => .nil
  | _, _, .cons r t => .cons (Rep.agr A r) (RepL.agr A t)
end
theorem RepKV.agr (A : Agr H H' ex) : ∀ {kvs : List (D × D)} {xs : List (NestedKey × Addr × Value)}, RepKV K Y H kvs xs → RepKV K Y H' kvs xs
  | _, _, .nil => .nil
  | _, _, .cons h1 h2 h3 h4 h5 t => .cons h1 h2 (h3.agr A) h4 (h5.agr A) (RepKV.agr A t)
theorem MOk.agr (A : Agr H H' ex) {a : Addr} {mo : MO} (hco : ∀ c q, H c = some (LamX.CodeO c q) → ¬ Y.vol c → ¬ ex c) (hce : mo.cap = true → ∀ c ob, H c = some (CellO c ob) → ¬ Y.vol c → ¬ ex c) (ha : ¬ ex a) (m : MOk K Y H a mo) : MOk K Y H' a mo := by
  have k := A.at_ a ha
  cases mo with
  | lst ds => obtain ⟨xs, h1, h2⟩ := m; exact ⟨xs, k.trans h1, h2.agr A⟩
  | dict kvs => obtain ⟨xs, h1, h0, h2⟩ := m; exact ⟨xs, k.trans h1, h0, h2.agr A⟩
  | frz kvs => obtain ⟨od, xs, h1, h0, h2⟩ := m; exact ⟨od, xs, k.trans h1, h0, h2.agr A⟩
  | inst c fs => obtain ⟨C, dx, vs, h0, h1, h2⟩ := m; exact ⟨C, dx, vs, h0, k.trans h1, h2.agr A⟩
  | dead => exact trivial
  | fn i caps =>
    obtain ⟨cells, c, h1, h2, h3, h4⟩ := m
    refine ⟨cells, c, k.trans h1, (A.at_ c (hco c _ h2 h3)).trans h2, h3, ?_⟩
    match caps, h4, hce with
    | [], h4, _ => exact h4
    | [d], ⟨x, ca, g1, g2, ob, v, u, g3, g4, g5, g6, g7⟩, hce => exact ⟨x, ca, g1, g2, ob, v, u, (A.at_ ca (hce rfl ca ob g3 g4)).trans g3, g4, g5, g6, g7.agr A⟩
theorem TabG.agr (A : Agr H H' ex) {P : Addr} {q : PySem.Str} (hco : ∀ c q, H c = some (LamX.CodeO c q) → ¬ Y.vol c → ¬ ex c) (hP : ¬ ex P) (t : TabG Y H P q) : TabG Y H' P q := by
  obtain ⟨h0, ps, h1, h2, h3⟩ := t
  refine ⟨h0, ps, (A.at_ P hP).trans h1, h2, fun pos cv hc => ?_⟩
  obtain ⟨c, e1, e2, e3⟩ := h3 pos cv hc
  exact ⟨c, e1, (A.at_ c (hco c q e2 e3)).trans e2, e3⟩
theorem noCap_get {S : Store} (h : noCap S = true) {n : Nat} {mo : MO} (e : S[n]? = some mo) : mo.cap = false := by
  unfold noCap at h
  rw [List.all_eq_true] at h
  have := h mo (List.mem_of_getElem? e)
  simpa using this
theorem Pst.noex {α : Type} {U U' : Wh} {Φ : α → Store → Lay → Hp → Prop} {r : Res α} (h : Pst K U Y H Φ r.noex) : Pst K U' Y H Φ r := by
  cases r with
  | ok a S => exact h
  | ex c S => exact h.elim
  | un => exact h.elim
end
section
variable {X : Cx} {U : Wh} {e : Expr} {es : List Expr} {Fs : List FE} {pos p : Pos} {j : Nat}
/-- f(..), f a variable that holds a lambda with nothing captured -/
theorem pf_callV {k n j' : Nat} {F : FF} {x : PySem.Str} (C : CxOk X U j) (h : LmD X.prog X.w X.K X.mg X.base U.cl k n j' F) (hj : j' ≤ j) (i : Nat) (ha : PaF X U (e :: es) Fs) (hl : Fs.length = n := by rfl) (hfr : (U.cl.lam k).fr = [] := by rfl)
    (hN : X.N[i]? = some x := by rfl) (hv : Vis X.env.scope x := by first | exact Or.inl rfl | exact Or.inr (Or.inl rfl) | exact Or.inr (Or.inr rfl)) (hd : (x == ("__debug__" : PySem.Str)) = false := by decide) (hcd : (x == ("__classdict__" : PySem.Str)) = false := by decide)
    (he : starEach (e :: es) X.env = (false, eval e X.env) :: starEach es X.env := by rfl) (hpl : (backTo pos (starEach es X.env)).any (·.1) = false := by rfl) : PeF X U (.Call (.Name x p) (e :: es) [] pos) (dCallV k F (dVar i) Fs) := by
  obtain ⟨ta, p2, q2⟩ := ha
  refine ⟨canonE (kwX X U) U (dCallV k F (dVar i) Fs), ⟨fun pins s σ H Q I ⟨Y, S, ρ, g, r, hP⟩ => ?_⟩, fun Y S H σ ρ Q g r h => ⟨Y, S, ρ, g, r, h⟩⟩
  unfold dCallV dVar at hP
  split at hP
  rotate_left
  · exact hP.elim
  rename_i d eρ
  simp only [Res.ok_bind] at hP
  split at hP
  rotate_left
  · exact hP.elim
  rename_i k' hf
  obtain ⟨hk, hP⟩ := ite_ok hP
  subst hk
  obtain ⟨m, rfl, hS⟩ := fnOf_some hf
  obtain ⟨v, hs, rv⟩ := r.2 i _ eρ
  cases rv with
  | loc hloc =>
  rename_i a
  obtain ⟨cells, c, m1, m2, m3, m4⟩ := g.at' m _ a hS hloc
  refine wpAny_Call_Name_kw (thn ((pe_var (pos := p) hN hv hd hcd).run pins s σ H (fun v H1 => v = .ref a ∧ H1 = H) I ⟨.ref a, hs, rfl, rfl⟩) fun u s1 ⟨v, H1, I1, r1, q1⟩ => ?_)
  obtain ⟨ev, eH⟩ := q1
  subst ev
  rw [eH] at I1
  obtain rfl : u = Value.ref a := r1
  have hA := q2 Y S H σ ρ (fun vs H2 => ∃ Y2 S2 ds, Good (kwX X U) Y2 S2 H2 ∧ RepL (kwX X U) Y2 H2 ds vs ∧ ds.length = Fs.length ∧ S2[m]? = some (.fn k' []) ∧ Y2.loc[m]? = some a ∧ Pst (kwX X U) U Y2 H2 (PD (kwX X U) Q) (F ds S2).noex) g r ?_
  · refine PySem.W.callWith_F (first := []) (lam_at I1.hok m1).fn (thn (p2.run pos pins s1 σ H _ I1 hA) fun us s2 ⟨vs, H2, I2, rvs, Y2, S2, ds, g2, rds, hlen, hS2, hl2, hP2⟩ => ?_) he hpl
    obtain ⟨cells2, c2, w1, w2, w3, w4⟩ := g2.at' m _ a hS2 hl2
    obtain ⟨w4, _⟩ := w4
    subst w4
    refine ⟨(lam_at I2.hok w1).fn, ?_⟩
    show wpAny _ _ (call (.ref a) us) _ _ _
    have hcl : NdefX.CellsAt [] (U.cl.lam k').fr (([] : List V).map some) s2.heap H2 := by rw [hfr]; exact cells_nil
    refine wpAny_call (codeAny_mono (h.run X.A X.stack s2 H2 Y2 S2 a c2 [] us vs [] ds [] Q (C.room.mono hj) I2.env0 (lam_at I2.hok w1) w2 hcl g2 rvs rds .nil (hlen.trans hl) ?_) fun r s' hq => ?_)
    · rw [List.append_nil]; exact hP2.noex
    · have := no_passes C I2 hq
      cases r with
      | error e => exact this
      | ok fl => cases fl <;> exact this
  · cases ev : evalAll Fs ρ S with
    | un => rw [ev] at hP; exact hP
    | ex c T => rw [ev] at hP; exact hP
    | ok ds T =>
      rw [ev] at hP
      intro Y2 H2 e2 g2 vs rvs
      have hz := evalAll_len ev
      have hP := Pst.mono (show Pst (kwX X U) U Y H (PD (kwX X U) Q) _ from hP) e2
      simp only [Res.ok_bind] at hP
      split at hP
      rotate_left
      · exact hP.elim
      rename_i k2 hf2
      obtain ⟨hk2, hP3⟩ := ite_ok hP
      clear hP
      subst hk2
      obtain ⟨m', em, hS2⟩ := fnOf_some hf2
      cases em
      obtain ⟨mm, em⟩ := e2.pre
      exact ⟨Y2, T, ds, g2, rvs, hz, hS2, by rw [em, List.getElem?_append_left (List.getElem?_eq_some_iff.mp hloc).1]; exact hloc, hP3⟩
end
end WF

set_option Elab.async false
set_option linter.all false
set_option maxRecDepth 100000
set_option maxHeartbeats 4000000
/-! # Rules15: a lambda that captures a name: called, handed to a method -/
namespace WF
open PySem PySem.Spec L2 PyProof.Rows
/-- the function value is locked, its cell is hidden -/
def hidW (H : Hp) (a ca : Addr) (oa : Obj) (u : HO) : Hp := fun b => if b = ca then none else if b = a then some (.frz oa u) else H b
/-- .. and back -/
def shwW (H : Hp) (a ca : Addr) (u v : HO) : Hp := fun b => if b = ca then some v else if b = a then some u else H b
section
variable {H : Hp} {a ca b : Addr} {oa : Obj} {u v : HO}
theorem hidW_ca : hidW H a ca oa u ca = none := if_pos rfl
theorem hidW_a (h : a ≠ ca) : hidW H a ca oa u a = some (.frz oa u) := by unfold hidW; rw [if_neg h, if_pos rfl]
theorem hidW_ne (h1 : b ≠ ca) (h2 : b ≠ a) : hidW H a ca oa u b = H b := by unfold hidW; rw [if_neg h1, if_neg h2]
theorem shwW_ca : shwW H a ca u v ca = some v := if_pos rfl
theorem shwW_a (h : a ≠ ca) : shwW H a ca u v a = some u := by unfold shwW; rw [if_neg h, if_pos rfl]
theorem shwW_ne (h1 : b ≠ ca) (h2 : b ≠ a) : shwW H a ca u v b = H b := by unfold shwW; rw [if_neg h1, if_neg h2]
end
section
variable {P : Program} {w : World} {H : Hp} {h : Heap} {a c ca : Addr} {q : PySem.Str} {ob : Obj} {L : LamI} {cells : List (PySem.Str × Addr)}
theorem cell_at (hok : HOk P w H h) (e : H ca = some (CellO ca ob)) : h.get? ca = some ob := by
  obtain ⟨z, _, _⟩ := hok ca _ e
  exact z
theorem code_ne_cell (hok : HOk P w H h) (e1 : H c = some (LamX.CodeO c q)) (e2 : H ca = some (CellO ca ob)) {u : Option Value} (hd : ob.data = .cell u) : c ≠ ca := fun z => by
  obtain ⟨⟨oc, vs, t, h1, h2, _⟩, _, _⟩ := hok c _ e1
  have h3 := cell_at hok e2
  rw [z, h3] at h1
  cases h1
  rw [hd] at h2
  cases h2
theorem lam_rd (e : H a = some (LamO a L cells c)) (xs : List V) : ¬ Rd H a (.tup xs) ∧ ¬ Rd H a (.lst xs) := by
  unfold LamO at e
  constructor
  · rintro (z | ⟨o, z⟩)
    · rw [e] at z; cases z
    · rw [e] at z; cases z
  · rintro (z | ⟨o, z⟩)
    · rw [e] at z; cases z
    · rw [e] at z; cases z
theorem cell_rd (e : H a = some (CellO ca ob)) (xs : List V) : ¬ Rd H a (.tup xs) ∧ ¬ Rd H a (.lst xs) := by
  unfold CellO at e
  constructor
  · rintro (z | ⟨o, z⟩)
    · rw [e] at z; cases z
    · rw [e] at z; cases z
  · rintro (z | ⟨o, z⟩)
    · rw [e] at z; cases z
    · rw [e] at z; cases z
theorem none_rd (e : H a = none) (xs : List V) : ¬ Rd H a (.tup xs) ∧ ¬ Rd H a (.lst xs) := by
  constructor
  · rintro (z | ⟨o, z⟩)
    · rw [e] at z; cases z
    · rw [e] at z; cases z
  · rintro (z | ⟨o, z⟩)
    · rw [e] at z; cases z
    · rw [e] at z; cases z
theorem frz_rd {oa : Obj} (e : H a = some (.frz oa (LamO a L cells c))) (xs : List V) : ¬ Rd H a (.tup xs) ∧ ¬ Rd H a (.lst xs) := by
  unfold LamO at e
  constructor
  · rintro (z | ⟨o, z⟩)
    · rw [e] at z; cases z
    · rw [e] at z
      injection z with z
      injection z with _ z
      cases z
  · rintro (z | ⟨o, z⟩)
    · rw [e] at z; cases z
    · rw [e] at z
      injection z with z
      injection z with _ z
      cases z
/-- the locked heap is held -/
theorem hok_hid {oa : Obj} (hok : HOk P w H h) (hne : a ≠ ca) (ha : H a = some (LamO a L cells c)) (hc : H ca = some (CellO ca ob)) (ho : h.get? a = some oa) : HOk P w (hidW H a ca oa (LamO a L cells c)) h := fun b u e => by
  have own : ∀ b x, H b = some (.own x) → hidW H a ca oa (LamO a L cells c) b = some (.own x) := fun b x z => by
    rw [hidW_ne (fun q => by rw [q, hc] at z; cases z) (fun q => by rw [q, ha] at z; cases z)]; exact z
  have tup : ∀ b x, H b = some (.tup x) → hidW H a ca oa (LamO a L cells c) b = some (.tup x) := fun b x z => by
    rw [hidW_ne (fun q => by rw [q, hc] at z; cases z) (fun q => by rw [q, ha] at z; cases z)]; exact z
  by_cases h1 : b = ca
  · rw [h1, hidW_ca] at e; cases e
  · by_cases h2 : b = a
    · rw [h2, hidW_a hne] at e
      cases e
      rw [h2]
      exact ⟨ho, (hok a _ ha).stay (fun _ _ _ q => q) (fun b q => own b a q) tup⟩
    · rw [hidW_ne h1 h2] at e
      exact (hok b u e).stay (fun _ _ _ q => q) (fun d q => own d b q) tup
theorem hok_shw {oa : Obj} (hok : HOk P w H h) (hne : a ≠ ca) (ha : H a = some (.frz oa (LamO a L cells c))) (hc : H ca = none) (ho : h.get? ca = some ob) : HOk P w (shwW H a ca (LamO a L cells c) (CellO ca ob)) h := fun b u e => by
  have own : ∀ b x, H b = some (.own x) → shwW H a ca (LamO a L cells c) (CellO ca ob) b = some (.own x) := fun b x z => by
    rw [shwW_ne (fun q => by rw [q, hc] at z; cases z) (fun q => by rw [q, ha] at z; cases z)]; exact z
  have tup : ∀ b x, H b = some (.tup x) → shwW H a ca (LamO a L cells c) (CellO ca ob) b = some (.tup x) := fun b x z => by
    rw [shwW_ne (fun q => by rw [q, hc] at z; cases z) (fun q => by rw [q, ha] at z; cases z)]; exact z
  by_cases h1 : b = ca
  · rw [h1, shwW_ca] at e
    cases e
    rw [h1]
    exact ⟨ho, ⟨_, ho⟩, fun h1 h2 z st => st _ z⟩
  · by_cases h2 : b = a
    · rw [h2, shwW_a hne] at e
      cases e
      rw [h2]
      obtain ⟨_, q⟩ := hok a _ ha
      exact ObjOk.stay (H := H) q (fun _ _ _ q => q) (fun b q => own b a q) tup
    · rw [shwW_ne h1 h2] at e
      exact (hok b u e).stay (fun _ _ _ q => q) (fun d q => own d b q) tup
end
theorem mem_frames {h base : Heap} {outer : List PySem.Env} {b : Addr} (f : h.FunFrames base outer) (hb : b ∈ frs outer) : ∃ o, h.get? b = some o := by
  obtain ⟨_, o, ho, _⟩ := f.mem hb
  exact ⟨o, ho⟩
section
variable {X : Cx} {U : Wh} {e : Expr} {es : List Expr} {Fs : List FE} {pos p : Pos} {j : Nat}
/-- f(..), f a variable that holds a lambda with one name captured -/
theorem pf_callW {k n j' : Nat} {F : FF} {x : PySem.Str} (C : CxOk X U j) (h : LmD X.prog X.w X.K X.mg X.base U.cl k n j' F) (hj : j' ≤ j) (i : Nat) (ha : PaF X U (e :: es) Fs) (hl : Fs.length = n := by rfl)
    (hN : X.N[i]? = some x := by rfl) (hv : Vis X.env.scope x := by first | exact Or.inl rfl | exact Or.inr (Or.inl rfl) | exact Or.inr (Or.inr rfl)) (hd : (x == ("__debug__" : PySem.Str)) = false := by decide) (hcd : (x == ("__classdict__" : PySem.Str)) = false := by decide)
    (he : starEach (e :: es) X.env = (false, eval e X.env) :: starEach es X.env := by rfl) (hpl : (backTo pos (starEach es X.env)).any (·.1) = false := by rfl) : PeF X U (.Call (.Name x p) (e :: es) [] pos) (dCallW k F (dVar i) Fs) := by
  obtain ⟨ta, p2, q2⟩ := ha
  refine ⟨canonE (kwX X U) U (dCallW k F (dVar i) Fs), ⟨fun pins s σ H Q I ⟨Y, S, ρ, g, r, hP⟩ => ?_⟩, fun Y S H σ ρ Q g r h => ⟨Y, S, ρ, g, r, h⟩⟩
  unfold dCallW dVar at hP
  split at hP
  rotate_left
  · exact hP.elim
  rename_i d eρ
  simp only [Res.ok_bind] at hP
  split at hP
  rotate_left
  · exact hP.elim
  rename_i m k' _ hf
  obtain ⟨hk, hP⟩ := ite_ok hP
  subst hk
  obtain ⟨m', em, hS⟩ := fnOf_some hf
  cases em
  obtain ⟨v, hs, rv⟩ := r.2 i _ eρ
  cases rv with
  | loc hloc =>
  rename_i a
  obtain ⟨cells, c, m1, m2, m3, m4⟩ := g.at' m _ a hS hloc
  refine wpAny_Call_Name_kw (thn ((pe_var (pos := p) hN hv hd hcd).run pins s σ H (fun v H1 => v = .ref a ∧ H1 = H) I ⟨.ref a, hs, rfl, rfl⟩) fun u s1 ⟨v, H1, I1, r1, q1⟩ => ?_)
  obtain ⟨ev, eH⟩ := q1
  subst ev
  rw [eH] at I1
  obtain rfl : u = Value.ref a := r1
  have hA := q2 Y S H σ ρ (fun vs H2 => ∃ Y2 S2 ds d, Good (kwX X U) Y2 S2 H2 ∧ RepL (kwX X U) Y2 H2 ds vs ∧ ds.length = Fs.length ∧ S2[m]? = some (.fn k' [d]) ∧ Y2.loc[m]? = some a ∧ noCap (S2.set m .dead) = true ∧
      Pst (kwX X U) U Y2 H2 (PD (kwX X U) Q) ((F (ds ++ [d]) (S2.set m .dead)).noex.bind fun r S3 => if S3[m]? = none then .un else .ok r (S3.set m (.fn k' [d])))) g r ?_
  · refine PySem.W.callWith_F (first := []) (lam_at I1.hok m1).fn (thn (p2.run pos pins s1 σ H _ I1 hA) fun us s2 ⟨vs, H2, I2, rvs, Y2, S2, ds, d, g2, rds, hlen, hS2, hl2, hno, hP2⟩ => ?_) he hpl
    obtain ⟨cells2, c2, w1, w2, w3, w4⟩ := g2.at' m _ a hS2 hl2
    obtain ⟨xc, ca, g1, gc, ob, vc, uc, g3, g4, g5, g6, g7⟩ := w4
    subst gc
    have hva : Y2.vol a := Y2.sub a (List.mem_of_getElem? hl2)
    have hne : a ≠ ca := fun z => g4 (z ▸ hva)
    have hnc : c2 ≠ ca := code_ne_cell I2.hok w2 g3 g5
    have hna : c2 ≠ a := fun z => w3 (z ▸ hva)
    have hob := cell_at I2.hok g3
    obtain ⟨oa, hoa⟩ : ∃ oa, s2.heap.get? a = some oa := by
      obtain ⟨od, sl, pm, ctv, ho⟩ := lam_at I2.hok w1
      exact ⟨_, ho⟩
    have caf : ca ∉ frs X.stack := fun z => by
      have := I2.stkFree ca z
      rw [g3] at this; cases this
    refine ⟨(lam_at I2.hok w1).fn, ?_⟩
    show wpAny _ _ (call (.ref a) us) _ _ _
    -- the call's heap
    generalize hHm : hidW H2 a ca oa (LamO a (U.cl.lam k') [(xc, ca)] c2) = Hm
    have m_ca : Hm ca = none := by rw [← hHm]; exact hidW_ca
    have m_a : Hm a = some (.frz oa (LamO a (U.cl.lam k') [(xc, ca)] c2)) := by rw [← hHm]; exact hidW_a hne
    have m_ne : ∀ b, b ≠ ca → b ≠ a → Hm b = H2 b := fun b h1 h2 => by rw [← hHm]; exact hidW_ne h1 h2
    have m_none : ∀ b, H2 b = none → Hm b = none := fun b hb => by
      rw [m_ne b (fun z => by rw [z, g3] at hb; cases hb) (fun z => by rw [z, w1] at hb; cases hb)]; exact hb
    have hokm : HOk X.prog X.w Hm s2.heap := by rw [← hHm]; exact hok_hid I2.hok hne w1 g3 hoa
    have e0 : Env0 X.prog X.w X.K X.mg X.base X.A X.stack s2 Hm := by
      have z := I2.env0
      exact ⟨z.frames, z.mod, fun b o hb => ⟨(z.bs b o hb).1, m_none b (z.bs b o hb).2⟩, z.bsz, z.funs, fun b hb => m_none b (z.frf b hb), hokm, z.bare⟩
    have A1 : Agr H2 Hm fun b => b = ca ∨ b = a := ⟨fun b hb => m_ne b (fun z => hb (.inl z)) fun z => hb (.inr z), fun b hb xs => by
      rcases hb with hb | hb
      · rw [hb]; exact cell_rd g3 xs
      · rw [hb]; exact lam_rd w1 xs⟩
    have hco : ∀ c q, H2 c = some (LamX.CodeO c q) → ¬ Y2.vol c → ¬ (c = ca ∨ c = a) := fun c q h1 h2 z => by
      rcases z with z | z
      · exact code_ne_cell I2.hok h1 g3 g5 z
      · exact h2 (z ▸ hva)
    have gm : Good (kwX X U) Y2 (S2.set m .dead) Hm := by
      refine ⟨by rw [List.length_set]; exact g2.len, g2.nd, fun n mo b h1 h2 => ?_, fun b hb => ?_, fun t ht => ?_⟩
      · by_cases q : n = m
        · subst q
          rw [hl2] at h2; cases h2
          have hk : n < S2.length := by rw [← g2.len]; exact (List.getElem?_eq_some_iff.mp hl2).1
          rw [List.getElem?_set_self hk] at h1
          cases h1
          exact trivial
        · have hcap := noCap_get hno h1
          rw [List.getElem?_set_ne (Ne.symm q)] at h1
          have hb : Y2.vol b := Y2.sub b (List.mem_of_getElem? h2)
          have ne : b ≠ a := fun z => by
            subst z
            obtain ⟨l1, e1⟩ := List.getElem?_eq_some_iff.mp h2
            obtain ⟨l2, e2⟩ := List.getElem?_eq_some_iff.mp hl2
            exact q ((List.getElem_inj g2.nd).mp (e1.trans e2.symm))
          exact (g2.at' n mo b h1 h2).agr A1 hco (fun z => by rw [hcap] at z; cases z) fun z => z.elim (fun z => g4 (z ▸ hb)) ne
      · by_cases q : b = a
        · rw [q, m_a]; exact fun z => nomatch z
        · rw [m_ne b (fun z => g4 (z ▸ hb)) q]; exact g2.there b hb
      · have tt := g2.tabs t ht
        refine tt.agr A1 hco fun z => ?_
        rcases z with z | z
        · obtain ⟨_, ps, hps, _⟩ := tt
          rw [z, g3] at hps
          unfold CellO at hps
          cases hps
        · exact tt.1 (z ▸ hva)
    have hCells : NdefX.CellsAt [(xc, ca)] (U.cl.lam k').fr (([vc] : List V).map some) s2.heap Hm := by
      have look : ∀ y b, ([(xc, ca)] : List (PySem.Str × Addr)).lookup y = some b → y = xc ∧ b = ca := fun y b hb => by
        rw [List.lookup_cons] at hb
        split at hb
        · rename_i q
          exact ⟨by simpa using q, (Option.some.inj hb).symm⟩
        · cases hb
      rw [g1]
      refine ⟨rfl, fun y b hb => ?_, fun y z b h1 h2 => by rw [(look y b h1).1, (look z b h2).1], fun n y hy => ?_⟩
      · rw [(look y b hb).2]
        exact ⟨m_ca, some uc, ob, hob, g5⟩
      · cases n with
        | succ n => simp at hy
        | zero =>
          simp at hy
          subst hy
          refine ⟨ca, by simp [List.lookup], fun v hv => ?_⟩
          simp at hv
          subst hv
          exact ⟨uc, g6, ob, hob, g5⟩
    have hlam : LamAt (U.cl.lam k') a c2 [(xc, ca)] s2.heap := lam_at I2.hok w1
    refine wpAny_call (codeAny_mono (h.run X.A X.stack s2 Hm Y2 (S2.set m .dead) a c2 [(xc, ca)] us vs [vc] ds [d] (fun v H3 => H3 ca = none → H3 a = some (.frz oa (LamO a (U.cl.lam k') [(xc, ca)] c2)) → Q v (shwW H3 a ca (LamO a (U.cl.lam k') [(xc, ca)] c2) (CellO ca ob)))
      (C.room.mono hj) e0 hlam (by rw [m_ne c2 hnc hna]; exact w2) hCells gm rvs (rds.agr A1) (.cons (g7.agr A1) .nil) (hlen.trans hl) ?_) fun r s' hq => ?_)
    · -- the denotation
      cases er : F (ds ++ [d]) (S2.set m .dead) with
      | un => rw [er] at hP2; exact hP2.elim
      | ex c T => rw [er] at hP2; exact hP2.elim
      | ok rr S3 =>
        rw [er] at hP2
        simp only [Res.ok_noex, Res.ok_bind] at hP2
        split at hP2
        · exact hP2.elim
        rename_i hS3
        intro Y3 H3 e3 g3' v' rv' n3 f3
        have hnv : ¬ Y3.vol ca := fun z => g3'.there ca z n3
        have hva3 : Y3.vol a := e3.vol a hva
        have hl3 : Y3.loc[m]? = some a := by
          obtain ⟨mm, em⟩ := e3.pre
          rw [em, List.getElem?_append_left (List.getElem?_eq_some_iff.mp hl2).1]
          exact hl2
        have A3 : Agr H3 (shwW H3 a ca (LamO a (U.cl.lam k') [(xc, ca)] c2) (CellO ca ob)) fun b => b = ca ∨ b = a := ⟨fun b hb => shwW_ne (fun z => hb (.inl z)) fun z => hb (.inr z), fun b hb xs => by
          rcases hb with hb | hb
          · rw [hb]; exact none_rd n3 xs
          · rw [hb]; exact frz_rd f3 xs⟩
        have e4 : Ext Y2 H2 Y3 (shwW H3 a ca (LamO a (U.cl.lam k') [(xc, ca)] c2) (CellO ca ob)) := by
          refine ⟨e3.pre, e3.vol, fun b o hb hbl ht => ?_, fun b xs hb => A3.rdt (e3.tups b xs (A1.rdt hb)), fun b hb => ?_, fun b hb => ?_, fun b hb => ?_, fun b od u hb => ?_⟩
          · have n1 : b ≠ a := fun z => hbl (by rw [z]; exact List.mem_of_getElem? hl2)
            by_cases z : b = ca
            · rw [z, shwW_ca]
              rw [z, g3] at hb
              exact hb
            · rw [shwW_ne z n1]
              exact e3.keep b o (by rw [m_ne b z n1]; exact hb) hbl ht
          · rcases e3.fresh b hb with z | z
            · exact .inl z
            · by_cases z1 : b = ca
              · exact absurd (z1 ▸ hb) hnv
              · by_cases z2 : b = a
                · rw [z2]; exact .inl hva
                · rw [m_ne b z1 z2] at z; exact .inr z
          · rcases e3.newl b hb with z | z
            · exact .inl z
            · by_cases z1 : b = ca
              · exact absurd (z1 ▸ Y3.sub b hb) hnv
              · by_cases z2 : b = a
                · rw [z2]; exact .inl (List.mem_of_getElem? hl2)
                · rw [m_ne b z1 z2] at z; exact .inr z
          · by_cases z1 : b = ca
            · rw [z1, shwW_ca] at hb; cases hb
            · by_cases z2 : b = a
              · rw [z2, shwW_a hne] at hb; cases hb
              · rw [shwW_ne z1 z2] at hb
                have := e3.dom b hb
                rw [m_ne b z1 z2] at this
                exact this
          · have z1 : b ≠ ca := fun z => by rw [z, g3] at hb; cases hb
            have z2 : b ≠ a := fun z => by rw [z, w1] at hb; cases hb
            rw [shwW_ne z1 z2]
            exact e3.frz b od u (by rw [m_ne b z1 z2]; exact hb)
        have hc3 : H3 c2 = some (LamX.CodeO c2 (U.cl.lam k').qual) := e3.keep c2 _ (by rw [m_ne c2 hnc hna]; exact w2) (fun z => w3 (Y2.sub c2 z)) codeO_ne
        have hco3 : ∀ c q, H3 c = some (LamX.CodeO c q) → ¬ Y3.vol c → ¬ (c = ca ∨ c = a) := fun c q h1 h2 z => by
          rcases z with z | z
          · rw [z, n3] at h1; cases h1
          · exact h2 (z ▸ hva3)
        have g4' : Good (kwX X U) Y3 (S3.set m (.fn k' [d])) (shwW H3 a ca (LamO a (U.cl.lam k') [(xc, ca)] c2) (CellO ca ob)) := by
          refine ⟨by rw [List.length_set]; exact g3'.len, g3'.nd, fun n mo b h1 h2 => ?_, fun b hb => ?_, fun t ht => ?_⟩
          · by_cases q : n = m
            · subst q
              rw [hl3] at h2; cases h2
              have hk : n < S3.length := by rw [← g3'.len]; exact (List.getElem?_eq_some_iff.mp hl3).1
              rw [List.getElem?_set_self hk] at h1
              cases h1
              refine ⟨[(xc, ca)], c2, shwW_a hne, by rw [shwW_ne hnc hna]; exact hc3, fun z => ?_, xc, ca, g1, rfl, ob, vc, uc, shwW_ca, hnv, g5, g6, ((g7.agr A1).mono e3).agr A3⟩
              rcases e3.fresh c2 z with z | z
              · exact w3 z
              · rw [m_ne c2 hnc hna, w2] at z; cases z
            · rw [List.getElem?_set_ne (Ne.symm q)] at h1
              have hb : Y3.vol b := Y3.sub b (List.mem_of_getElem? h2)
              have ne : b ≠ a := fun z => by
                subst z
                obtain ⟨l1, e1⟩ := List.getElem?_eq_some_iff.mp h2
                obtain ⟨l2, e2⟩ := List.getElem?_eq_some_iff.mp hl3
                exact q ((List.getElem_inj g3'.nd).mp (e1.trans e2.symm))
              refine (g3'.at' n mo b h1 h2).agr A3 hco3 (fun _ c1 ob1 h1 h2 z => ?_) fun z => z.elim (fun z => hnv (z ▸ hb)) ne
              rcases z with z | z
              · rw [z, n3] at h1; cases h1
              · exact h2 (z ▸ hva3)
          · by_cases q : b = a
            · rw [q, shwW_a hne]; exact fun z => nomatch z
            · rw [shwW_ne (fun (z : b = ca) => hnv (z ▸ hb)) q]; exact g3'.there b hb
          · have tt := g3'.tabs t ht
            refine tt.agr A3 hco3 fun z => ?_
            rcases z with z | z
            · obtain ⟨_, ps, hps, _⟩ := tt
              rw [z, n3] at hps; cases hps
            · exact tt.1 (z ▸ hva3)
        exact hP2 Y3 _ e4 g4' v' (rv'.agr A3)
    · -- behind the call
      cases r with
      | error e =>
        obtain ⟨_, _, _, _, _, _, _, _, _, _, _, _, z⟩ := hq
        exact z.elim
      | ok fl =>
        cases fl with
        | next => exact hq
        | brk => exact hq
        | cont => exact hq
        | ret u =>
          obtain ⟨v', H3, os, bare, un, hok3, rv', q⟩ := hq
          have n3 : H3 ca = none := un.free ca ob hob m_ca (by simp)
          have f3 : H3 a = some (.frz oa (LamO a (U.cl.lam k') [(xc, ca)] c2)) := un.frzs a oa _ m_a
          have hob' : s'.heap.get? ca = some ob := un.keep ca ob hob m_ca caf (by simp)
          refine I2.after ⟨v', shwW H3 a ca (LamO a (U.cl.lam k') [(xc, ca)] c2) (CellO ca ob), os, bare, ?_, hok_shw hok3 hne f3 n3 hob', rv', q n3 f3⟩
          have ne2 : ∀ b, H2 b = none → b ≠ ca ∧ b ≠ a := fun b hb => ⟨fun z => (by rw [z, g3] at hb; cases hb), fun z => (by rw [z, w1] at hb; cases hb)⟩
          have ne3 : ∀ b u, H2 b = some u → (∀ φ, u ≠ .ext φ) → b ≠ ca ∧ b ≠ a := fun b u hb hu => ⟨fun z => (by rw [z, g3] at hb; exact hu _ (Option.some.inj hb).symm), fun z => (by rw [z, w1] at hb; exact hu _ (Option.some.inj hb).symm)⟩
          refine ⟨fun b o hb hn hf hx => un.keep b o hb (m_none b hn) hf hx, fun b o hb hn hf hx => un.slot b o hb (m_none b hn) hf hx, fun b o hb hn hx => ?_, fun b o hb hx => un.there b o hb hx, fun b xs hb => ?_, fun b o u hb => ?_, fun b ps hb => ?_⟩
          · rw [shwW_ne (ne2 b hn).1 (ne2 b hn).2]
            exact un.free b o hb (m_none b hn) hx
          · have z := ne3 b _ hb fun _ z => nomatch z
            rw [shwW_ne z.1 z.2]
            exact un.tups b xs (by rw [m_ne b z.1 z.2]; exact hb)
          · have z := ne3 b _ hb fun _ z => nomatch z
            rw [shwW_ne z.1 z.2]
            exact un.frzs b o u (by rw [m_ne b z.1 z.2]; exact hb)
          · have z := ne3 b _ hb fun _ z => nomatch z
            rw [shwW_ne z.1 z.2]
            exact un.tbls b ps (by rw [m_ne b z.1 z.2]; exact hb)
  · cases ev : evalAll Fs ρ S with
    | un => rw [ev] at hP; exact hP
    | ex c T => rw [ev] at hP; exact hP
    | ok ds T =>
      rw [ev] at hP
      intro Y2 H2 e2 g2 vs rvs
      have hz := evalAll_len ev
      have hP := Pst.mono (show Pst (kwX X U) U Y H (PD (kwX X U) Q) _ from hP) e2
      simp only [Res.ok_bind] at hP
      split at hP
      rotate_left
      · exact hP.elim
      rename_i k2 d hf2
      obtain ⟨⟨hk2, hno⟩, hP3⟩ := ite_ok hP
      clear hP
      subst hk2
      obtain ⟨m', em, hS2⟩ := fnOf_some hf2
      cases em
      obtain ⟨mm, em⟩ := e2.pre
      exact ⟨Y2, T, ds, d, g2, rvs, hz, hS2, by rw [em, List.getElem?_append_left (List.getElem?_eq_some_iff.mp hloc).1]; exact hloc, hno, hP3⟩
end
end WF

set_option Elab.async false
set_option linter.all false
set_option maxRecDepth 100000
set_option maxHeartbeats 4000000
/-! # Rules16: o.m(lambda ..), the lambda with one name captured -/
namespace WF
open PySem PySem.Spec L2 PyProof.Rows
theorem upd_comm {H : Hp} {a b : Addr} {u v : HO} (h : a ≠ b) : upd (upd H a u) b v = upd (upd H b v) a u := by
  funext c
  by_cases h1 : c = a
  · subst h1; rw [upd_ne h, upd_same, upd_same]
  · by_cases h2 : c = b
    · subst h2; rw [upd_same, upd_ne h1, upd_same]
    · rw [upd_ne h2, upd_ne h1, upd_ne h1, upd_ne h2]
/-- the address is not told of -/
def remA (H : Hp) (ca : Addr) : Hp := fun b => if b = ca then none else H b
theorem remA_ca {H : Hp} {ca : Addr} : remA H ca ca = none := if_pos rfl
theorem remA_ne {H : Hp} {ca b : Addr} (h : b ≠ ca) : remA H ca b = H b := if_neg h
section
variable {X : Cx} {U : Wh} {o : Expr} {pos apos lpos : Pos} {j : Nat} {pl : Sem Bool}
theorem pf_methW {c m : Cs} {x xc : PySem.Str} {k j' : Nat} {G : FF} {Fo : FE} {cc P : Addr} {params : Arguments} {body : Expr} {scope : Scope} (C : CxOk X U j) (h : MtD X.prog X.w X.K X.mg X.base U.cl c m 2 j' G) (hj : j' ≤ j) (ho : PeF X U o Fo) (i : Nat)
    (TB : LamX.TabB X.base X.mg cc P) (hcode : X.env.code = .ref cc) (hm : (P, (U.cl.lam k).qual) ∈ U.cl.tab) (hu : ∀ p ∈ U.cl.tab, p.1 = P → p.2 = (U.cl.lam k).qual) (hq : (U.cl.lam k).qual = X.env.qual ++ "<lambda>")
    (hfr : (U.cl.lam k).fr = [xc]) (hN : X.N[i]? = some xc) (hk : X.env.scope.names.lookup xc = some .cell) (hfn : X.fn xc = true)
    (hfree : ∀ y ∈ (U.cl.lam k).scope.names, y.2 = .free → y.1 = xc) (hcl : ∀ (cells : List (PySem.Str × Addr)) (ca : Addr), cells.lookup xc = some ca → cloFrom cells (U.cl.lam k).scope.names [] = [(xc, ca)])
    (h1 : params = (U.cl.lam k).params := by rfl) (h2 : body = (U.cl.lam k).body := by rfl) (h3 : scope = (U.cl.lam k).scope := by rfl) (hdef : defaultsOf (U.cl.lam k).params X.env = ([], []) := by rfl) (hx : x = sv m := by decide +kernel)
    (hst : starEach [Expr.Lambda params body scope lpos] X.env = (false, eval (.Lambda params body scope lpos) X.env) :: starEach [] X.env := by rfl) (hpl : (backTo pos (starEach [] X.env)).any (·.1) = false := by rfl)
    (ht : eval (.Call (.Attribute o x apos) [.Lambda params body scope lpos] [] pos) X.env = (do
      let ov ← eval o X.env
      standAt apos.atName
      let (f, first) ← holding [ov] (getMethod ov x pl)
      callWith pos f first (backTo pos (starEach [.Lambda params body scope lpos] X.env)) (backToKw pos (keywordEach [] X.env))) := by rfl) :
    PeF X U (.Call (.Attribute o x apos) [.Lambda params body scope lpos] [] pos) (dMethW c m G Fo k i) := by
  obtain ⟨K0, f0, fd, ps, hps, hF, hb, n1, n2, n3⟩ := h
  obtain ⟨to, p1, q1⟩ := ho
  subst hx
  subst h1 h2 h3
  refine ⟨canonE (kwX X U) U (dMethW c m G Fo k i), ⟨fun pins s σ H Q I ⟨Y, S, ρ, g, r, hP⟩ => ?_⟩, fun Y S H σ ρ Q g r h => ⟨Y, S, ρ, g, r, h⟩⟩
  have hto := q1 Y S H σ ρ (fun v H1 => ∃ Y1 S1 n a dx fs C' c' fsD d vd, v = .ref a ∧ Good (kwX X U) Y1 S1 H1 ∧ Y1.loc[n]? = some a ∧ H1 a = some (.ins C' dx fs) ∧ C' = K0 ∧ fs.lookup (sv m) = none ∧ S1[n]? = some (.inst c' fsD) ∧ σ[i]? = some (some vd) ∧ Rep (kwX X U) Y1 H1 d vd ∧
      Pst (kwX X U) U Y1 H1 (PD (kwX X U) Q) ((G [.loc n, .loc S1.length] (S1 ++ [.fn k [d]])).noex.bind fun r S3 => if noCap (S3.set S1.length .dead) = true then .ok r (S3.set S1.length .dead) else .un)) g r ?_
  rotate_left
  · refine (Pst.bind hP).imp fun d0 S1 Y1 H1 e1 g1 h1 v rv => ?_
    cases rv with
    | loc hl =>
      rename_i n a
      dsimp only at h1
      split at h1
      · rename_i c' fs hS
        obtain ⟨hc, h5⟩ := ite_ok h1
        clear h1
        obtain ⟨rfl, hlk⟩ := hc
        obtain ⟨C', dx, vs, m0, m1, m2⟩ := g1.at' n _ a hS hl
        have hC : C' = K0 := m0.one n1
        unfold dVar at h5
        split at h5
        · rename_i d eρ
          simp only [Res.ok_bind] at h5
          obtain ⟨vd, hs, rd⟩ := r.2 i _ eρ
          exact ⟨Y1, S1, n, a, dx, _, C', c', fs, d, vd, rfl, g1, hl, m1, hC, lookup_fieldsV_none hlk, hS, hs, rd.mono e1, h5⟩
        · exact h5.elim
      · exact h1.elim
    | _ => exact h1.elim
  refine PySem.W.methodCall_KW (pl := pl) (thn (p1.run pins s σ H _ I hto) fun u s1 ⟨x, H1, I1, rx, Y1, S1, n, a, dx, fs, C', c', fsD, d, vd, ex, g1, hl, ea, hC, l, hS, hs, rd, hP1⟩ => ?_) ht
  subst ex hC
  obtain rfl : u = Value.ref a := rx
  refine getmeth_ok I1 ea n2 n3 l ?_
  refine PySem.W.callWith_K (first := [.ref a]) (h₀ := X.base) I1.ok.mod.kin n3.kp ?_ hst hpl
  rw [hst]
  show wpAny _ _ (spliced ((false, eval (.Lambda (U.cl.lam k).params (U.cl.lam k).body (U.cl.lam k).scope lpos) X.env) :: backTo pos (starEach [] X.env))) _ _ s1
  obtain ⟨ca, hca⟩ := I1.ok.has xc (.inl hk)
  refine Calls.spliced_cons (lam_made I1 g1 TB hcode hm hu hq hdef (fun y hy e => ⟨ca, by rw [hfree y hy e]; exact hca⟩) fun f c2 H2 s2 I2 hkeep hnone e2 g2 nf nf1 nfs hco hcv => ?_)
  refine Calls.spliced_nil ⟨I2.kIn, ?_⟩
  show wpAny _ _ (call (.ref f0) [.ref a, .ref f]) _ _ s2
  rw [hcl _ ca hca] at I2
  -- the cell
  have hf_ca : f ≠ ca := fun z => by
    obtain ⟨w, oc, hoc, _⟩ := I1.cell xc ca hca
    rw [← z, nfs] at hoc
    cases hoc
  have n_ca : H2 ca = none := by
    have z := I2.freeC xc ca hca
    rwa [upd_ne (Ne.symm hf_ca)] at z
  have hvis : Vis X.env.scope xc := .inr (.inl hk)
  obtain ⟨ud, rud, hcell⟩ : ∃ ud, RelV vd ud ∧ s2.heap.IsCell ca (some ud) := by
    obtain ⟨mm, _, hlo⟩ := I2.loc
    obtain ⟨ud, rud, lk⟩ := hlo i xc vd hN hs hvis
    rcases lk with ⟨k', _⟩ | ⟨_, cb, hcb, hcell⟩
    · have k' : X.env.scope.names.lookup xc = some .local := k'
      rw [hk] at k'; cases k'
    · rw [hca] at hcb
      cases hcb
      exact ⟨ud, rud, hcell⟩
  obtain ⟨ob, hob, hobd⟩ := hcell
  have ca_big : X.s_0.heap.objs.size ≤ ca := I1.ok.cab xc ca hfn hca
  have caf : ca ∉ frs X.stack := fun z => by
    rcases List.mem_cons.mp (I2.stkSub ca z) with q | q
    · exact I2.cne xc ca hca q
    · obtain ⟨_, oo, hoo, _⟩ := I2.ok.funs.mem q
      exact absurd (Nat.lt_of_lt_of_le (Heap.lt_size hoo) ca_big) (Nat.lt_irrefl _)
  have ca_base : X.base.get? ca = none := Heap.get?_none_of_le (Nat.le_trans I2.ok.bsz ca_big)
  have hc2_ca : c2 ≠ ca := fun z => by rw [z, n_ca] at hco; cases hco
  have hc2_f : c2 ≠ f := ne_of_none hco nf
  -- the call's heap
  generalize hHq : upd (upd H2 f (LamO f (U.cl.lam k) [(xc, ca)] c2)) ca (CellO ca ob) = Hq
  have q_ca : Hq ca = some (CellO ca ob) := by rw [← hHq]; exact upd_same
  have q_ne : ∀ b, b ≠ ca → Hq b = upd H2 f (LamO f (U.cl.lam k) [(xc, ca)] c2) b := fun b hb => by rw [← hHq]; exact upd_ne hb
  have f_ca : upd H2 f (LamO f (U.cl.lam k) [(xc, ca)] c2) ca = none := by rw [upd_ne (Ne.symm hf_ca)]; exact n_ca
  have hHq2 : Hq = upd (upd H2 ca (CellO ca ob)) f (LamO f (U.cl.lam k) [(xc, ca)] c2) := by rw [← hHq]; exact upd_comm hf_ca
  have hokq : HOk X.prog X.w Hq s2.heap := fun b u e => by
    have own : ∀ b x, upd H2 f (LamO f (U.cl.lam k) [(xc, ca)] c2) b = some (.own x) → Hq b = some (.own x) := fun b x z => by rw [q_ne b fun q => by rw [q, f_ca] at z; cases z]; exact z
    have tup : ∀ b x, upd H2 f (LamO f (U.cl.lam k) [(xc, ca)] c2) b = some (.tup x) → Hq b = some (.tup x) := fun b x z => by rw [q_ne b fun q => by rw [q, f_ca] at z; cases z]; exact z
    by_cases hb : b = ca
    · rw [hb, q_ca] at e
      cases e
      rw [hb]
      exact ⟨hob, ⟨_, hob⟩, fun h1 h2 z st => st _ z⟩
    · rw [q_ne b hb] at e
      exact (I2.hok b u e).stay (fun _ _ _ q => q) (fun d q => own d b q) tup
  have e0 : Env0 X.prog X.w X.K X.mg X.base X.A X.stack s2 Hq := by
    have z := I2.env0
    refine ⟨z.frames, z.mod, fun b o hb => ⟨(z.bs b o hb).1, ?_⟩, z.bsz, z.funs, fun b hb => ?_, hokq, z.bare⟩
    · rw [q_ne b fun q => by rw [q, ca_base] at hb; cases hb]
      exact (z.bs b o hb).2
    · rw [q_ne b fun q => caf (q ▸ hb)]
      exact z.frf b hb
  have nv_ca : ¬ Y1.vol ca := fun z => g2.there ca z n_ca
  have ea : Ext Y1 H2 Y1 (upd H2 ca (CellO ca ob)) := Ext.new n_ca
  have nf2 : (upd H2 ca (CellO ca ob)) f = none := by rw [upd_ne hf_ca]; exact nf
  have eb : Ext Y1 (upd H2 ca (CellO ca ob)) (Y1.add f) Hq := by rw [hHq2]; exact Ext.add nf2
  have eab := e2.trans (ea.trans eb)
  have hlf : (Y1.add f).loc[S1.length]? = some f := by
    show (Y1.loc ++ [f])[S1.length]? = some f
    rw [← g1.len]
    simp
  have gq : Good (kwX X U) (Y1.add f) (S1 ++ [.fn k [d]]) Hq := by
    have gn : Good (kwX X U) Y1 S1 (upd H2 ca (CellO ca ob)) := g2.new n_ca
    have := gn.add (mo := .fn k [d]) (o := LamO f (U.cl.lam k) [(xc, ca)] c2) nf2 ⟨[(xc, ca)], c2, upd_same, by rw [upd_ne hc2_f, upd_ne hc2_ca]; exact hco, fun z => z.elim (fun z => hcv z) fun z => hc2_f z,
      xc, ca, hfr, rfl, ob, vd, ud, by rw [upd_ne (Ne.symm hf_ca), upd_same], fun z => z.elim (fun z => nv_ca z) fun z => hf_ca z.symm, hobd, rud, by rw [← hHq2]; exact rd.mono eab⟩
    rw [← hHq2] at this
    exact this
  have hlen2 : ps.length = 2 := hps
  have rvals : Vals [V.ref a, V.ref f] [Value.ref a, Value.ref f] := .cons rfl (.cons rfl .nil)
  have hbind : BindsTo s2 fd ⟨[.ref a, .ref f], []⟩ (ps.zip [Value.ref a, Value.ref f]) := by
    have z := hb s2 [.ref a, .ref f] I2.kIn (by simp [hlen2])
    simpa using z
  have run := hF.run X.A X.stack s2 Hq ⟨[.ref a, .ref f], []⟩ [.ref a, .ref f] [V.ref a, V.ref f] (fun v H3 => H3 ca = some (CellO ca ob) ∧ ((∀ c q, H3 c = some (LamX.CodeO c q) → c ≠ ca) → Q v (remA H3 ca))) (fun _ _ _ => False) (C.room.mono hj) e0 hbind rvals ?_
  · refine wpAny_call (codeAny_mono run fun r s' hqq => ?_)
    cases r with
    | error e =>
      obtain ⟨_, _, _, _, _, _, _, _, _, _, _, _, z⟩ := hqq
      exact z.elim
    | ok fl =>
      cases fl with
      | next => exact hqq
      | brk => exact hqq
      | cont => exact hqq
      | ret u =>
        obtain ⟨v', H3, os, bare, un, hok3, rv', q⟩ := hqq
        obtain ⟨k3, qq⟩ := q
        have qq := qq fun c q hc => code_ne_cell hok3 hc k3 hobd
        have hob' : s'.heap.get? ca = some ob := cell_at hok3 k3
        refine I2.after ⟨v', remA H3 ca, os, bare, ?_, ?_, rv', qq⟩
        · have ne2 : ∀ b u, upd H2 f (LamO f (U.cl.lam k) [(xc, ca)] c2) b = some u → b ≠ ca := fun b u hb z => by rw [z, f_ca] at hb; cases hb
          refine ⟨fun b o hb hn hf hx => ?_, fun b o hb hn hf hx => ?_, fun b o hb hn hx => ?_, fun b o hb hx => un.there b o hb hx, fun b xs hb => ?_, fun b o u hb => ?_, fun b ps hb => ?_⟩
          · by_cases z : b = ca
            · rw [z, hob] at hb
              rw [z]
              cases hb
              exact hob'
            · exact un.keep b o hb (by rw [q_ne b z]; exact hn) hf hx
          · exact un.slot b o hb (by rw [q_ne b fun z => caf (z ▸ hf)]; exact hn) hf hx
          · by_cases z : b = ca
            · rw [z]; exact remA_ca
            · rw [remA_ne z]; exact un.free b o hb (by rw [q_ne b z]; exact hn) hx
          · have z := ne2 b _ hb
            rw [remA_ne z]; exact un.tups b xs (by rw [q_ne b z]; exact hb)
          · have z := ne2 b _ hb
            rw [remA_ne z]; exact un.frzs b o u (by rw [q_ne b z]; exact hb)
          · have z := ne2 b _ hb
            rw [remA_ne z]; exact un.tbls b ps (by rw [q_ne b z]; exact hb)
        · intro b u e
          by_cases z : b = ca
          · rw [z, remA_ca] at e; cases e
          · rw [remA_ne z] at e
            exact (hok3 b u e).stay (fun _ _ _ q => q) (fun d q => by rw [remA_ne fun z => by rw [z, k3] at q; cases q]; exact q) fun d x q => by rw [remA_ne fun z => by rw [z, k3] at q; cases q]; exact q
  · refine ⟨rfl, Y1.add f, S1 ++ [.fn k [d]], [.loc n, .loc S1.length], gq, .cons (.loc ?_) (.cons (.loc hlf) .nil), ?_⟩
    · show (Y1.loc ++ [f])[n]? = some a
      rw [List.getElem?_append_left (List.getElem?_eq_some_iff.mp hl).1]
      exact hl
    · cases er : G [.loc n, .loc S1.length] (S1 ++ [.fn k [d]]) with
      | un => rw [er] at hP1; exact hP1.elim
      | ex c T => rw [er] at hP1; exact hP1.elim
      | ok rr S3 =>
        rw [er] at hP1
        simp only [Res.ok_noex, Res.ok_bind] at hP1
        obtain ⟨hno, hP2⟩ := ite_ok hP1
        clear hP1
        intro Y3 H3 e3 g3 v' rv'
        have k3 : H3 ca = some (CellO ca ob) := e3.keep ca _ q_ca (fun z => by
          rcases List.mem_append.mp (show ca ∈ Y1.loc ++ [f] from z) with z | z
          · exact nv_ca (Y1.sub ca z)
          · exact hf_ca (List.mem_singleton.mp z).symm) cellO_ne
        refine ⟨k3, fun hcodes => ?_⟩
        have hl3 : Y3.loc[S1.length]? = some f := by
          obtain ⟨mm, em⟩ := e3.pre
          rw [em, List.getElem?_append_left (List.getElem?_eq_some_iff.mp hlf).1]
          exact hlf
        have A3 : Agr H3 (remA H3 ca) fun b => b = ca := ⟨fun b hb => remA_ne hb, fun b hb xs => by rw [hb]; exact cell_rd k3 xs⟩
        have e4 := (ea.trans eb).trans e3
        have nv3 : ¬ Y3.vol ca := fun z => by
          rcases e3.fresh ca z with z | z
          · rcases z with z | z
            · exact nv_ca z
            · exact hf_ca z.symm
          · rw [q_ca] at z; cases z
        have e5 : Ext Y1 H2 Y3 (remA H3 ca) := by
          refine ⟨e4.pre, e4.vol, fun b u hb hbl ht => ?_, fun b xs hb => A3.rdt (e4.tups b xs hb), e4.fresh, e4.newl, fun b hb => ?_, fun b od u hb => ?_⟩
          · rw [remA_ne fun z => by rw [z, n_ca] at hb; cases hb]
            exact e4.keep b u hb hbl ht
          · by_cases z : b = ca
            · rw [z]; exact n_ca
            · rw [remA_ne z] at hb; exact e4.dom b hb
          · rw [remA_ne fun z => by rw [z, n_ca] at hb; cases hb]
            exact e4.frz b od u hb
        have hco3 : ∀ c q, H3 c = some (LamX.CodeO c q) → ¬ Y3.vol c → ¬ c = ca := fun c q h1 _ => hcodes c q h1
        have g4 : Good (kwX X U) Y3 (S3.set S1.length .dead) (remA H3 ca) := by
          refine ⟨by rw [List.length_set]; exact g3.len, g3.nd, fun n' mo b h1 h2 => ?_, fun b hb => ?_, fun t ht => ?_⟩
          · by_cases q : n' = S1.length
            · subst q
              have hk : S1.length < S3.length := by rw [← g3.len]; exact (List.getElem?_eq_some_iff.mp hl3).1
              rw [List.getElem?_set_self hk] at h1
              cases h1
              exact trivial
            · have hcap := noCap_get hno h1
              rw [List.getElem?_set_ne (Ne.symm q)] at h1
              have hb : Y3.vol b := Y3.sub b (List.mem_of_getElem? h2)
              exact (g3.at' n' mo b h1 h2).agr A3 hco3 (fun z => by rw [hcap] at z; cases z) fun z => nv3 (z ▸ hb)
          · rw [remA_ne fun (z : b = ca) => nv3 (z ▸ hb)]; exact g3.there b hb
          · have tt := g3.tabs t ht
            refine tt.agr A3 hco3 fun z => ?_
            obtain ⟨_, ps', hps', _⟩ := tt
            rw [z, k3] at hps'
            unfold CellO at hps'
            cases hps'
        exact (Pst.mono (show Pst (kwX X U) U Y1 H1 (PD (kwX X U) Q) (.ok rr (S3.set S1.length .dead)) from hP2) e2) Y3 _ e5 g4 v' (rv'.agr A3)
end
end WF

set_option Elab.async false
set_option linter.all false
set_option maxRecDepth 100000
set_option maxHeartbeats 4000000
/-! # Rules17: lambdas by their written words; defs that make lambdas -/
namespace WF
open PySem PySem.Spec L2 PyProof.Rows
/-- what a lambda captures, as its scope tells it -/
def freesOf (sc : Scope) : List PySem.Str := (sc.names.filter fun y => y.2 == .free).map (·.1)
theorem cloFrom_eq (cells : List (PySem.Str × Addr)) : ∀ (names : List (PySem.Str × NameKind)) (acc : List (PySem.Str × Addr)), cloFrom cells names acc = (((names.filter fun y => y.2 == .free).map (·.1)).map fun n => (n, (cells.lookup n).getD 0)).reverse ++ acc
  | [], acc => rfl
  | (n, k) :: r, acc => by
    unfold cloFrom
    rw [List.filter_cons]
    by_cases e : (k == .free) = true
    · rw [if_pos e, if_pos e, cloFrom_eq cells r]
      simp
    · rw [if_neg e, if_neg e, cloFrom_eq cells r]
theorem freesOf_mem {sc : Scope} {y : PySem.Str × NameKind} (hy : y ∈ sc.names) (e : y.2 = .free) : y.1 ∈ freesOf sc :=
  List.mem_map_of_mem (List.mem_filter.mpr ⟨hy, by rw [e]; rfl⟩)
/-- a def of which the code object is known -/
structure FunC (K : PySem.W.Frag) (x qual : PySem.Str) (st : Stmt) (f : Addr) (fd : FuncData) (c : Addr) : Prop where
  ex : ∃ (oc : Value) (od : Option Addr) (kV doc pm : Value) (an : Option Addr) (ct : Value) (osl : Array (Option Value)), fd = PySem.W.fnOf x qual (defArgs st) (defBody st) (defScope st) .none kV doc pm an (.ref c) ct ∧ K.lookup f = some ⟨oc, od, .func fd, osl⟩ ∧
    PySem.W.codeIn K (.ref c) qual = true
  kp : PySem.W.keepIn K (.ref f) = true
/-- the table of the code object at c takes lambdas of the name q -/
def TabD (mg : PySem.Str → Option Value) (base : Heap) (cl : Cl) (c : Addr) (q : PySem.Str) : Prop := ∃ P, LamX.TabB base mg c P ∧ (P, q) ∈ cl.tab ∧ ∀ p ∈ cl.tab, p.1 = P → p.2 = q
section
variable {P : Program} {w : World} {K : PySem.W.Frag} {mg : PySem.Str → Option Value} {base : Heap} {cl : Cl}
theorem fnok_mkC {x qual : PySem.Str} {st : Stmt} {f c : Addr} {fd : FuncData} {N ps : List PySem.Str} {k : Nat} {F : FS} (Fn : FunC K x qual st f fd c) (S : FnScope N ps (defScope st))
    (body : ∀ (A : Around) (outer : List PySem.Env) (s : Shared) (H : Hp) (E : XK), CxOk (cxOf (L2.CX P w) P w K mg base N qual (defScope st) f (.ref c) A outer s H E) ⟨E, cl⟩ k →
      PssF (cxOf (L2.CX P w) P w K mg base N qual (defScope st) f (.ref c) A outer s H E) ⟨E, cl⟩ (defBody st) F) : FnOk P w K mg base (L2.CX P w) (k + 1) f fd ps (spF ⟨P, w, K, cl⟩ cl ps.length (runDef N.length F)) := by
  obtain ⟨oc, od, kV, doc, pm, an, ct, osl, rfl, lk, hcd⟩ := Fn.ex
  refine fn_of lk hcd S (fun vs H Q E h => h.1) fun A outer s H vs Q E hr h => ?_
  obtain ⟨hl, Y, T, ds, g, r, hP⟩ := h
  have C : CxOk (cxOf (L2.CX P w) P w K mg base N qual (defScope st) f (.ref c) A outer s H E) ⟨E, cl⟩ k :=
    ⟨rfl, S.nd, hr, passes_call (W := fun c d _ H => E c d H) (takes_of rfl rfl rfl rfl) (fun _ _ _ _ h => h), passes_of rfl, takes_of rfl rfl rfl rfl⟩
  obtain ⟨t, p, q⟩ := body A outer s H E C
  refine ⟨t, p, q Y T H (L2.start N vs) (startE N.length ds) _ g (repS_start r) ?_⟩
  unfold runDef at hP
  refine (Pst.bind hP).imp fun d S1 Y1 H1 e1 g1 h1 => ?_
  cases d with
  | next ρ1 => exact fun σ rs => h1.now g1 .non .non
  | ret d => exact fun v rv => h1.now g1 v rv
  | brk ρ1 => exact h1.elim
  | cnt ρ1 => exact h1.elim
theorem fnd_mkC {x qual : PySem.Str} {st : Stmt} {f c : Addr} {fd : FuncData} {N ps : List PySem.Str} {k : Nat} {F : FS} (Fn : FunC K x qual st f fd c) (S : FnScope N ps (defScope st)) (hb : Binds K fd ps []) (hm : mg x = some (.ref f))
    (body : ∀ (A : Around) (outer : List PySem.Env) (s : Shared) (H : Hp) (E : XK), CxOk (cxOf (L2.CX P w) P w K mg base N qual (defScope st) f (.ref c) A outer s H E) ⟨E, cl⟩ k →
      PssF (cxOf (L2.CX P w) P w K mg base N qual (defScope st) f (.ref c) A outer s H E) ⟨E, cl⟩ (defBody st) F) : FnD P w K mg base cl x ps.length (k + 1) (runDef N.length F) :=
  ⟨f, fd, ps, rfl, fnok_mkC Fn S body, hm, Fn.kp, hb⟩
theorem func_mk {x qual : PySem.Str} {st : Stmt} {f c : Addr} {oc : Value} {od an : Option Addr} {osl : Array (Option Value)} {kV doc pm cdv ct : Value} (l : K.lookup f = some ⟨oc, od, .func (PySem.W.fnOf x qual (defArgs st) (defBody st) (defScope st) .none kV doc pm an cdv ct), osl⟩)
    (hcd : PySem.W.codeIn K cdv qual = true) (k : PySem.W.keepIn K (.ref f) = true) (e : cdv = .ref c) : FunC K x qual st f (PySem.W.fnOf x qual (defArgs st) (defBody st) (defScope st) .none kV doc pm an cdv ct) c := by
  subst e
  exact ⟨⟨oc, od, kV, doc, pm, an, ct, osl, rfl, l, hcd⟩, k⟩
/-- a lambda, by its written body -/
theorem lmd_mkL {k j : Nat} {N ps : List PySem.Str} {F : FE} {L : LamI} (e : cl.lam k = L) (Sc : NdefX.NScope N ps L.fr L.scope)
    (hb : ∀ (q : PySem.Str) (cells : List (PySem.Str × Addr)) (pm cv ctv : Value) (us : List Value), us.length = ps.length → bindArgs (PySem.W.kla_fn "<lambda>" q L.params L.body L.scope cells pm cv ctv) ⟨us, []⟩ = pure (ps.zip us))
    (body : ∀ (A : Around) (outer : List PySem.Env) (s : Shared) (H : Hp) (a c : Addr) (cells : List (PySem.Str × Addr)), CxOk (NdefX.ncx (L2.CX P w) P w K mg base N (lamNF L cells c) a A outer s H fun _ _ _ => False) ⟨fun _ _ _ => False, cl⟩ j →
      PeF (NdefX.ncx (L2.CX P w) P w K mg base N (lamNF L cells c) a A outer s H fun _ _ _ => False) ⟨fun _ _ _ => False, cl⟩ L.body F) : LmD P w K mg base cl k ps.length (j + 1) (runLam N.length F) := by
  subst e
  exact lmd_mk Sc hb body
end
section
variable {X : Cx} {U : Wh} {e o : Expr} {es : List Expr} {Fo : FE} {Fs : List FE} {pos apos lpos p : Pos} {j : Nat} {pl : Sem Bool}
theorem pf_lamL {k : Nat} {c : Addr} {L : LamI} {params : Arguments} {body : Expr} {scope : Scope} (hL : U.cl.lam k = L) (TD : TabD X.mg X.base U.cl c L.qual) (hfs : freesOf L.scope = [] := by decide +kernel) (hcode : X.env.code = .ref c := by rfl)
    (hq : L.qual = X.env.qual ++ "<lambda>" := by decide +kernel) (h1 : params = L.params := by rfl) (h2 : body = L.body := by rfl) (h3 : scope = L.scope := by rfl) (hdef : defaultsOf L.params X.env = ([], []) := by rfl) (hfr : L.fr = [] := by rfl) :
    PeF X U (.Lambda params body scope pos) (dLam k) := by
  obtain ⟨P, TB, hm, hu⟩ := TD
  subst hL
  exact pf_lam TB hcode hm hu hq h1 h2 h3 hdef (fun y hy e => by have := freesOf_mem hy e; rw [hfs] at this; simp at this) (fun cells => by rw [cloFrom_eq]; show ((freesOf _).map _).reverse ++ [] = []; rw [hfs]; rfl) hfr
theorem pf_callVL {k n j' : Nat} {F : FF} {x : PySem.Str} {L : LamI} (C : CxOk X U j) (hL : U.cl.lam k = L) (h : LmD X.prog X.w X.K X.mg X.base U.cl k n j' F) (hj : j' ≤ j) (i : Nat) (ha : PaF X U (e :: es) Fs) (hl : Fs.length = n := by rfl) (hfr : L.fr = [] := by rfl)
    (hN : X.N[i]? = some x := by rfl) (hv : Vis X.env.scope x := by first | exact Or.inl rfl | exact Or.inr (Or.inl rfl) | exact Or.inr (Or.inr rfl)) (hd : (x == ("__debug__" : PySem.Str)) = false := by decide) (hcd : (x == ("__classdict__" : PySem.Str)) = false := by decide)
    (he : starEach (e :: es) X.env = (false, eval e X.env) :: starEach es X.env := by rfl) (hpl : (backTo pos (starEach es X.env)).any (·.1) = false := by rfl) : PeF X U (.Call (.Name x p) (e :: es) [] pos) (dCallV k F (dVar i) Fs) := by
  subst hL
  exact pf_callV C h hj i ha hl hfr hN hv hd hcd he hpl
theorem pf_methWL {c m : Cs} {x xc : PySem.Str} {k j' : Nat} {G : FF} {cc : Addr} {L : LamI} {params : Arguments} {body : Expr} {scope : Scope} (C : CxOk X U j) (hL : U.cl.lam k = L) (h : MtD X.prog X.w X.K X.mg X.base U.cl c m 2 j' G) (hj : j' ≤ j) (ho : PeF X U o Fo) (i : Nat)
    (TD : TabD X.mg X.base U.cl cc L.qual) (hN : X.N[i]? = some xc := by rfl) (hfs : freesOf L.scope = [xc] := by decide +kernel) (hfr : L.fr = [xc] := by rfl) (hk : X.env.scope.names.lookup xc = some .cell := by rfl) (hfn : X.fn xc = true := by rfl) (hcode : X.env.code = .ref cc := by rfl)
    (hq : L.qual = X.env.qual ++ "<lambda>" := by decide +kernel) (h1 : params = L.params := by rfl) (h2 : body = L.body := by rfl) (h3 : scope = L.scope := by rfl) (hdef : defaultsOf L.params X.env = ([], []) := by rfl) (hx : x = sv m := by decide +kernel)
    (hst : starEach [Expr.Lambda params body scope lpos] X.env = (false, eval (.Lambda params body scope lpos) X.env) :: starEach [] X.env := by rfl) (hpl : (backTo pos (starEach [] X.env)).any (·.1) = false := by rfl)
    (ht : eval (.Call (.Attribute o x apos) [.Lambda params body scope lpos] [] pos) X.env = (do
      let ov ← eval o X.env
      standAt apos.atName
      let (f, first) ← holding [ov] (getMethod ov x pl)
      callWith pos f first (backTo pos (starEach [.Lambda params body scope lpos] X.env)) (backToKw pos (keywordEach [] X.env))) := by rfl) :
    PeF X U (.Call (.Attribute o x apos) [.Lambda params body scope lpos] [] pos) (dMethW c m G Fo k i) := by
  obtain ⟨P, TB, hm, hu⟩ := TD
  subst hL
  exact pf_methW C h hj ho i TB hcode hm hu hq hfr hN hk hfn (fun y hy e => by have := freesOf_mem hy e; rw [hfs] at this; simpa using this)
    (fun cells ca hc => by rw [cloFrom_eq]; show ((freesOf _).map _).reverse ++ [] = _; rw [hfs]; simp [hc]) h1 h2 h3 hdef hx hst hpl ht
end
end WF

set_option Elab.async false
set_option linter.all false
set_option maxRecDepth 100000
set_option maxHeartbeats 4000000
/-! # Rules18: the end of a row of which defs make lambdas -/
namespace WF
open PySem PySem.Spec L2 PyProof.Rows
theorem tab_uni {tab : List (Addr × PySem.Str)} (nd : (tab.map (·.1)).Nodup) {P : Addr} {q : PySem.Str} (h : (P, q) ∈ tab) : ∀ p ∈ tab, p.1 = P → p.2 = q := by
  induction tab with
  | nil => simp at h
  | cons x r ih =>
    intro p hp e
    have nd' : x.1 ∉ r.map (·.1) ∧ (r.map (·.1)).Nodup := by simpa using nd
    rcases List.mem_cons.mp h with h1 | h1
    · rcases List.mem_cons.mp hp with h2 | h2
      · rw [h2, ← h1]
      · exact absurd (List.mem_map.mpr ⟨p, h2, by rw [e, ← h1]⟩) nd'.1
    · rcases List.mem_cons.mp hp with h2 | h2
      · refine absurd (List.mem_map.mpr ⟨(P, q), h1, ?_⟩) nd'.1
        rw [← h2, e]
      · exact ih nd'.2 h1 p h2 e
/-- what the written part says of a def's code object -/
structure TabK (K : PySem.W.Frag) (x : PySem.Str) (c P : Addr) : Prop where
  tab : PySem.W.tabIn K x = some (c, P)
  free : K.lookup P = none
theorem tabK_mk {K : PySem.W.Frag} {x qual : PySem.Str} {st : Stmt} {f c P : Addr} {oc : Value} {od an dd : Option Addr} {osl sl : Array (Option Value)} {kV doc pm cdv ct e : Value} {vs : Array Value}
    (a : PySem.W.nsIn K mainGlobals x = some (some (.ref f))) (l : K.lookup f = some ⟨oc, od, .func (PySem.W.fnOf x qual (defArgs st) (defBody st) (defScope st) .none kV doc pm an cdv ct), osl⟩) (h : cdv = .ref c) (m : K.lookup c = some ⟨e, dd, .fields vs, sl⟩) (v : vs[11]? = some (.ref P)) (z : K.lookup P = none) : TabK K x c P := by
  subst h
  refine ⟨?_, z⟩
  unfold PySem.W.tabIn
  rw [a]
  dsimp only
  rw [l]
  dsimp only
  rw [m]
  dsimp only
  rw [v]
theorem walkT2 {l : PySem.W.OpenLaw} {k : Nat} {x : PySem.Str} {q : Program} {loose : List PySem.Str} {XP : (PySem.Str → Option Value) → Heap → Prop} {YP : World → Heap → Prop} {d : DefRec} {K : Params → PySem.W.Frag} (hn : l.most = some 63) (hdf : d.params.defaults = []) (hr : Room k callerA)
    (hY : ∀ (w : World) (h : Heap), YP w h → (K w.params).In h)
    (F : ∀ (w : World) (mg : PySem.Str → Option Value) (fa : Addr) (h : Heap), (K w.params).In h → h.Ns mainGlobals mg → mg d.name = some (.ref fa) →
      (∀ (x : PySem.Str) (c P : Addr), ((recsOf q).any fun e => e.name == x) = true → TabK (K w.params) x c P → PySem.W.CodeHd h c P ∧ h.get? P = some { cls := .none, data := .fields #[] }) →
      ∃ (fd : FuncData) (cs : List (Addr × Addr)) (tab : List (Addr × PySem.Str)), (∀ p ∈ cs, h.get? p.2 = some { cls := .none, data := .fields #[] }) ∧ (∀ p ∈ cs, (K w.params).lookup p.2 = none) ∧ (∀ p ∈ cs, PySem.W.CodeHd h p.1 p.2) ∧ (∀ p ∈ tab, ∃ c, (c, p.1) ∈ cs) ∧
        (∀ (s : Shared) (u : Value), BindsTo s fd ⟨[u], []⟩ [(x, u)]) ∧ ∀ base : Heap, (K w.params).In base → base.Ns mainGlobals mg → (∀ p ∈ cs, LamX.TabB base mg p.1 p.2) → FnOk l.prog w (K w.params) mg base (L2.CX l.prog w) k fa fd [x] (spLaw (K w.params) tab)) :
    PySem.W.WalkO q loose XP YP l.row.toRowW d [] (fun f vs => PySem.call f vs) := by
  refine Att.attach_callB hn hdf fun w s₀ s₁ mg mb fa o pm cd doc a vs ns G Y ho hd hcd hmg hobj hints hlen hbits hg => ?_
  have KX := hY w _ Y
  obtain ⟨fd, cs, tab, hT, nT, C, ht, hb, hF⟩ := F w mg fa _ KX G.T.g hmg fun x c P hx T => by
    obtain ⟨e, he⟩ : ∃ e, (recsOf q).find? (fun e => e.name == x) = some e := by
      cases q' : (recsOf q).find? (fun e => e.name == x) with
      | some e => exact ⟨e, rfl⟩
      | none =>
        obtain ⟨y, hy1, hy2⟩ := List.any_eq_true.mp hx
        exact absurd hy2 (by have := List.find?_eq_none.mp q' y hy1; simpa using this)
    exact PySem.W.tab_of G.T KX he T.tab
  exact LamX.law_callTs KX G.T.g G.T.b G.T.builtins G.T.nolimit hg hT nT C G.T.bmain hobj hints (Nat.le_trans hlen (by decide)) hr hF hb (fun H hc hS => ⟨a, ns, rfl, hS, hlen, fun p hp => let ⟨c, hm⟩ := ht p hp; hc (c, p.1) hm, fun _ => rfl⟩) fun _ _ _ z => by
    obtain ⟨_, _, _, _, _, _, _, _, _, _, _, _, z⟩ := z
    exact z
end WF

set_option Elab.async false
set_option linter.all false
set_option maxRecDepth 100000
set_option maxHeartbeats 4000000
/-! # Rules19: a text turned round; a constant dict of texts -/
namespace WF
open PySem L2 PyProof.Rows
section
variable {X : Cx} {U : Wh} {e : Expr} {Fe : FE} {pos : Pos}
def revS (z : PySem.Str) : PySem.Str := ⟨z.cps.toList.reverse.toArray⟩
theorem rev_picked (z : PySem.Str) : ((PySem.slicePicked z none none (some (-1, t))).filterMap (z.cps[·]?)) = z.cps.toList.reverse := by
  show ((sliceRange ((z.length : Int) - 1) (-1) (-1)).filterMap (z.cps[·]?)) = _
  rw [PySem.W.krv_sliceRange, PySem.W.krv_range, List.filterMap_reverse]
  congr 1
  exact PySem.W.krv_all z.cps
theorem pe_revS {te : TE} {k : Nat} {p1 p2 p3 : Pos} (he : PE X e te) : PE X (.Subscript e (.Slice none none (some (.UnaryOp .USub (.Constant (.int 1) k p1) p2)) p3) pos) (fun σ H Q => te σ H fun x H1 => ∃ z, x = .str z ∧ z.length ≤ sizeLine ∧ Q (.str (revS z)) H1) := by
  refine ⟨fun pins s σ H Q I h => ?_⟩
  refine Subscript_ (thn (he.run pins s σ H _ I h) fun v s1 ⟨x, H1, I1, r1, q1⟩ => ?_)
  obtain ⟨z, rfl, hz, q⟩ := q1
  obtain ⟨t, rfl⟩ := r1
  have hst : PO X (some (.UnaryOp .USub (.Constant (.int 1) k p1) p2)) (tPart (tUn (rU fun i => .int (-i)) (tC (.int 1)))) := po_some (pe_un un_neg pe_int)
  refine wpAny_Slice (thn (po_none.run pins s1 σ H1 (fun o H2 => o = none ∧ H2 = H1) I1 ⟨rfl, rfl⟩) fun vl s2 ⟨l, H2, I2, pl, el, e2⟩ => ?_)
  subst el e2
  refine thn (po_none.run pins s2 σ H2 (fun o H3 => o = none ∧ H3 = H2) I2 ⟨rfl, rfl⟩) fun vu s3 ⟨u, H3, I3, pu, eu, e3⟩ => ?_
  subst eu e3
  refine thn (hst.run pins s3 σ H3 (fun o H4 => o = some (-1) ∧ H4 = H3) I3 ⟨1, rfl, -1, rfl, rfl, rfl⟩) fun vs s4 ⟨o, H4, I4, ps, eo, e4⟩ => ?_
  subst eo e4
  have I5 : Inv X pins σ H4 { s4 with heap := s4.heap.push { cls := .type "slice", data := .fields #[vl, vu, vs] } } := I4.kept (t' := s4.toks) fun b ob q => Heap.get?_push_of_some _ q
  cases pl
  cases pu
  obtain ⟨tk, rfl⟩ : ∃ tk, vs = Value.int (-1) tk := by cases ps; exact ⟨_, rfl⟩
  show wpAny (model X.prog X.w) X.A (subscriptTail e (.Slice none none (some (.UnaryOp .USub (.Constant (.int 1) k p1) p2)) p3) (.str z t) (.ref s4.heap.objs.size)) (EP X pins σ Q) X.xe { s4 with heap := s4.heap.push { cls := .type "slice", data := .fields #[.none, .none, .int (-1) tk] } }
  refine tail_any (T := "str") (ops := [.ref s4.heap.objs.size, .str z t]) (typeIs_str _ _ _) F.slot_str_getitem.lookup ?_ (by with_unfolding_all rfl)
  refine wpAny_getItem_str_slice (l := none) (u := none) (st := some (-1, tk)) ⟨_, Heap.get?_push_size _ rfl, rfl, rfl⟩ rfl ?_
  have em : sliceMade z t none none (some (-1, tk)) = .str (revS z) := by
    show (if (((-1 : Int) == 1) && _) = true then Made.val (.str z t) else Made.str ⟨((slicePicked z none none (some (-1, tk))).filterMap (z.cps[·]?)).toArray⟩) = _
    rw [rev_picked]
    rfl
  rw [em]
  exact ⟨by show z.cps.toList.reverse.toArray.size ≤ _; have hz2 : z.cps.size ≤ sizeLine := hz; simpa using hz2, .str _, H4, I5.tok _, ⟨_, rfl⟩, q⟩
theorem pf_rev {k : Nat} {p1 p2 p3 : Pos} (he : PeF X U e Fe) : PeF X U (.Subscript e (.Slice none none (some (.UnaryOp .USub (.Constant (.int 1) k p1) p2)) p3) pos) (dUn gRev Fe) := by
  obtain ⟨te, p, q⟩ := he
  refine ⟨_, pe_revS p, fun Y S H σ ρ Q g0 rs h => q Y S H σ ρ _ g0 rs ((Pst.bind h).imp fun d S1 Y1 H1 e1 g1 h1 x rx => ?_)⟩
  cases d with
  | str s =>
    have e' := str_read (S := S1) rx rfl
    subst e'
    obtain ⟨hz, h1⟩ := ite_ok h1
    refine ⟨_, rfl, by rw [sv_len, ← lim_eq]; exact hz, ?_⟩
    have es : revS (sv s) = sv s.reverse := by
      unfold revS sv
      simp
    rw [es]
    exact h1.val g1 (.str _)
  | _ => exact h1.elim
/-- a module's dict of texts -/
def TabC (K : PySem.W.Frag) (w : World) (mg : PySem.Str → Option Value) (x : PySem.Str) (tab : List (Cs × Cs)) : Prop :=
  ∃ p, mg x = some (.ref p) ∧ ∀ k v, tab.lookup k = some v → KDct K w p (sv k) (.str (sv v))
theorem pf_ixC {x : PySem.Str} {px : Pos} {tab : List (Cs × Cs)} (T : TabC X.K X.w X.mg x tab) (hb : PeF X U e Fe) (hg : Gl X x := by rfl) (hd : (x == ("__debug__" : PySem.Str)) = false := by decide) (hs : PlainIx e := by exact fun _ _ => rfl) :
    PeF X U (.Subscript (.Name x px) e pos) (dUn (gTab tab) Fe) := by
  obtain ⟨p, hm, hk⟩ := T
  obtain ⟨tb, p2, q2⟩ := hb
  refine ⟨_, pe_ix ix_kdict (pe_glob hg hm (v := .ref p) rfl hd) p2 hs, fun Y S H σ ρ Q g0 rs h => q2 Y S H σ ρ _ g0 rs ((Pst.bind h).imp fun d S1 Y1 H1 e1 g1 h1 y ry => ?_)⟩
  cases d with
  | str s =>
    have e' := str_read (S := S1) ry rfl
    subst e'
    unfold gTab at h1
    dsimp only at h1
    split at h1
    · rename_i v hv
      exact ⟨p, _, _, rfl, rfl, hk s v hv, h1.val g1 (.str _)⟩
    · exact h1.elim
  | _ => exact h1.elim
theorem kv_to {K : PySem.W.Frag} {p : Addr} {a b a' b' : PySem.Str} {t : Tok} (ha : a = a') (hb : b = b') (h : PySem.W.nsIn K p a' = some (some (.str b' t))) : PySem.W.nsIn K p a = some (some (.str b t)) := by
  rw [ha, hb]; exact h
theorem tabC_mk {K : PySem.W.Frag} {w : World} {mg : PySem.Str → Option Value} {x : PySem.Str} {p : Addr} {es : Array DictEntry} {n : Nat} {tab : List (Cs × Cs)} (hm : mg x = some (.ref p)) (hl : K.lookup p = some ⟨.type "dict", none, .dict es n, #[]⟩) (hk : PySem.W.KeysLit w.params es.toList)
    (hv : ∀ kv ∈ tab, ∃ t, PySem.W.nsIn K p (sv kv.1) = some (some (.str (sv kv.2) t))) : TabC K w mg x tab :=
  ⟨p, hm, fun k v h => by
    have : (k, v) ∈ tab := by
      induction tab with
      | nil => cases h
      | cons a r ih =>
        rw [List.lookup_cons] at h
        split at h
        · rename_i e
          cases h
          rw [beq_iff_eq.mp e]
          exact List.mem_cons_self ..
        · exact List.mem_cons_of_mem _ (ih (fun kv hkv => hv kv (List.mem_cons_of_mem _ hkv)) h)
    obtain ⟨t, e⟩ := hv _ this
    exact ⟨es, n, _, hl, hk, e, ⟨t, rfl⟩⟩⟩
end
end WF

set_option Elab.async false
set_option linter.all false
set_option maxRecDepth 100000
set_option maxHeartbeats 4000000
/-! # Rules20: xs.extend -/
namespace WF
open PySem L2 PyProof.Rows
theorem list_extend_any (l : Addr) (items : Array Value) (n : Nat) (b : Addr) (ss : Array (Option Value)) (items2 : Array Value) (n2 : Nat) (hc0 : ¬(!items.isEmpty && Builtin.List.listTooLong (items.size + items2.size)) = true) (hc1 : items.size ≤ sizeLine) (hs2 : items.size + items2.size ≤ sizeLine + 1) :
    Meets (Builtin.«list.extend» ⟨[.ref l, .ref b], []⟩) (fun _ R s => s.heap.get? l = some { cls := .type "list", dict := none, data := .seq items n, slots := #[] } ∧ s.heap.get? b = some { cls := .type "list", dict := none, data := .seq items2 n2, slots := ss } ∧ R (.ok (.ret Value.none)) { s with heap := s.heap.update l (Obj.mapSeq fun x => x ++ items2), toks := s.toks }) :=
  .of_wp fun prog w A R s h => by
    obtain ⟨hp, g, d, tk, os⟩ := s
    obtain ⟨hl, hb, h⟩ := h
    have hz' : (items ++ items2).size ≤ sizeLine + 1 := by rw [Array.size_append]; exact hs2
    wp_walk using (wpAny_updateSeq hl rfl (hz := hc1) (_hz' := hz')), wpAny_loadPart' hl, wpAny_loadPart' hb
    exact ⟨_, rfl, h⟩
section
variable {X : Cx} {U : Wh} {o e : Expr} {F : FE} {pos : Pos}
def rExt (K : PySem.W.Frag) : V → List V → Hp → VK → Prop := fun x vs H Q => ∃ l b xs zs, x = .ref l ∧ vs = [.ref b] ∧ H l = some (.lst xs) ∧ SqL K H b zs ∧ xs.length + zs.length ≤ sizeLine ∧ Q .non (upd H l (.lst (xs ++ zs)))
theorem mt_ext : MtM X "list.extend" (rExt X.K) := by
  intro pins s σ H x vs v us Q I rx rv h
  obtain ⟨l, b, xs, zs, rfl, rfl, hH, hB, hz, q⟩ := h
  cases rx
  obtain ⟨u, rfl, ru⟩ := rv.one
  cases ru
  obtain ⟨z, its, n, r, hl, e⟩ := I.lstM hH
  obtain ⟨its2, r2, ⟨⟨c2, d2, da2, s2⟩, n2, ho2, hc2, hd2, hs2⟩, z2⟩ := I.list hB
  cases hc2
  cases hd2
  cases hs2
  have l1 := r.length
  have l2 := r2.length
  have hsz : its.toArray.size + its2.toArray.size ≤ sizeLine := by rw [List.size_toArray, List.size_toArray]; omega
  have hlong : ¬ (!its.toArray.isEmpty && Builtin.List.listTooLong (its.toArray.size + its2.toArray.size)) = true := by
    rw [notLongL hsz, Bool.and_false]
    exact Bool.false_ne_true
  refine call_meets PySem.F.slot_list_extend ⟨_, e, rfl⟩ PySem.F.entry_list_extend (PySem.F.args_list_extend_2 _ _)
    (list_extend_any l its.toArray n b _ its2.toArray n2 hlong (by rw [List.size_toArray]; omega) (by omega)) ⟨e, ho2, ?_⟩
  refine ⟨.non, _, I.lset (its' := its ++ its2) hH e (by simp) (r.append r2) ?_, rfl, q⟩
  rw [List.length_append]
  omega
theorem pf_ext {apos cpos : Pos} (ho : PeF X U o F) {Fe : FE} (he : PeF X U e Fe)
    (hbase : attributeBase o "extend" X.env (eval o X.env) = eval o X.env := by rfl)
    (hfew : ((backTo cpos (starEach (e :: []) X.env)).all (fun x => !x.1) && (backToKw cpos (keywordEach [] X.env)).all (fun x => x.1.isSome)
      && decide ((e :: []).length + ([] : List Keyword).length + (if ([] : List Keyword).isEmpty then 0 else 1) < 30)) = true := by rfl)
    (hline : (apos.endLine == cpos.line) = true := by rfl) (hs : starEach (e :: []) X.env = (false, eval e X.env) :: starEach [] X.env := by rfl) (hplain : (backTo cpos (starEach [] X.env)).any (·.1) = false := by rfl) :
    PeF X U (.Call (.Attribute o "extend" apos) [e] [] cpos) (dExt F Fe) := by
  obtain ⟨to, p1, q1⟩ := ho
  obtain ⟨te, p2, q2⟩ := he
  refine ⟨_, pe_bm PySem.F.plainAttrs_list PySem.F.slot_list_extend PySem.F.type_list_extend mt_ext p1 (pa_cons p2 pa_nil hs) hbase hfew hline hs hplain, fun Y S H σ ρ Q g rs h => q1 Y S H σ ρ _ g rs ((Pst.bind h).imp fun d S1 Y1 H1 e1 g1 h1 v rv => ?_)⟩
  cases rv with
  | loc hl =>
    rename_i n a
    dsimp only at h1
    split at h1
    · rename_i ds0 hS
      obtain ⟨xs0, m1, m2⟩ := g1.at' n _ a hS hl
      refine ⟨.inl ⟨rfl, xs0, SqL.of m1⟩, q2 Y1 S1 H1 σ ρ _ g1 (rs.mono e1) ((Pst.bind h1).imp fun y S2 Y2 H2 e2 g2 h2 w rw_ => ?_)⟩
      have hl2 : Y2.loc[n]? = some a := by
        obtain ⟨m, em⟩ := e2.pre
        rw [em, List.getElem?_append_left (List.getElem?_eq_some_iff.mp hl).1]
        exact hl
      split at h2
      · rename_i ds es hS2
        obtain ⟨hc, h5⟩ := ite_ok h2
        obtain ⟨xs, k1, k2⟩ := g2.at' n _ a hS2 hl2
        obtain ⟨p2, zs, rfl, s2, r2⟩ := lst_read (S := S2) g2 rw_ rfl
        refine ⟨a, p2, xs, zs, rfl, rfl, k1, s2, ?_, ?_⟩
        · rw [← k2.len, ← r2.len, ← lim_eq]; exact hc
        · have ex : Ext Y2 H2 Y2 (upd H2 a (.lst (xs ++ zs))) := Ext.mut g2 hl2 k1
          have gx := g2.mutL hl2 k1 (k2.append r2)
          exact h5 Y2 _ ex gx .non .non
      · exact h2.elim
    · exact h1.elim
  | _ => exact h1.elim
end
end WF

set_option Elab.async false
set_option linter.all false
set_option maxRecDepth 100000
set_option maxHeartbeats 4000000
/-! # Rules21: a comprehension of two clauses -/
namespace WF
open PySem L2 PyProof.Rows
theorem ExtV.trans {Y Y1 Y2 : Lay} {H H1 H2 : Hp} (a : ExtV Y H Y1 H1) (b : ExtV Y1 H1 Y2 H2) (hd : ∀ x, H1 x = none → H x = none) : ExtV Y H Y2 H2 := by
  obtain ⟨m1, e1⟩ := a.pre
  obtain ⟨m2, e2⟩ := b.pre
  refine ⟨⟨m1 ++ m2, by rw [e2, e1, List.append_assoc]⟩, fun x o h hn ht => b.keep x o (a.keep x o h hn ht) (a.nv h hn) ht, fun x xs h => b.tups x xs (a.tups x xs h), fun x h => ?_⟩
  rcases b.fresh x h with z | z
  · exact a.fresh x z
  · exact .inr (hd x z)
theorem tYes_intro {σ : L2.St} {H : Hp} {Q : Bool → Hp → Prop} (h : Q true H) : L2.tYes σ H Q := h
theorem RepS.monoV {K : KW} {Y Y' : Lay} {H H' : Hp} {ρ : Env} {σ : L2.St} (h : RepS K Y H ρ σ) (e : ExtV Y H Y' H') : RepS K Y' H' ρ σ :=
  ⟨h.1, fun i d q => let ⟨v, h1, h2⟩ := h.2 i d q; ⟨v, h1, h2.monoV e⟩⟩
section
variable {K : KW} {U U0 : Wh} {G G2 : FG} {Fe : FE} {it : FI} {Fa : FE} {wi : TI} {vs ws vs2 ws2 : List Nat}
theorem DE.comp2 (hi : DI K U wi it) (hw : ∀ i ∈ ws, i ∈ vs) (hw2 : ∀ i ∈ ws2, i ∈ vs2) :
    DE K U (tLc2 wi (canonG K U0 ws G) L2.tYes (iStr (canonE K U0 Fa)) (canonG K U0 ws2 G2) L2.tYes (canonE K U0 Fe) vs vs2) (dComp2 it G vs Fa G2 vs2 Fe) := by
  intro Y S H σ ρ Q g0 rs h
  unfold dComp2 at h
  refine hi Y S H σ ρ _ g0 rs ((Pst.bind h).imp fun p S1 Y1 H1 e1 g1 h1 J wk D hD => ?_)
  obtain ⟨ds, w⟩ := p
  cases w with
  | some n => exact h1.elim
  | none =>
  obtain ⟨hl, h1⟩ := ite_ok h1
  have rs1 := rs.mono e1
  have h2 : Pst K U Y1 H1 (PD K Q) ((comp2L G vs Fa G2 vs2 Fe ρ (ds.drop 0) S1).bind fun ys S2 => .ok (.lst ([] ++ ys)) S2) := h1
  have vol1 : ∀ a, Y1.vol a → H1 a ≠ none := g1.there
  refine ⟨fun i m H' => ∃ Y' S' acc done, m = ds.length - i ∧ i ≤ ds.length ∧ Ext Y1 H1 Y' H' ∧ Good K Y' S' H' ∧ Y'.vol D ∧ D ∉ Y'.loc ∧ H' D = some (.lst acc) ∧ RepL K Y' H' done acc ∧ done.length ≤ i * 128 ∧
    Pst K U Y1 H1 (PD K Q) ((comp2L G vs Fa G2 vs2 Fe ρ (ds.drop i) S').bind fun ys S2 => .ok (.lst (done ++ ys)) S2), ?_, ?_⟩
  · exact ⟨_, Y1.hide D, S1, [], [], rfl, Nat.zero_le _, ext_hide hD, good_hide g1 hD, .inr rfl, fun z => vol1 D (Y1.sub D z) hD, upd_same, .nil, Nat.zero_le _, h2⟩
  · rintro i m H' ⟨Y', S', acc, done, rfl, hi', eX, gX, vX, lX, hacc, racc, hdone, hP⟩
    by_cases hlt : i < ds.length
    · rw [List.drop_eq_getElem_cons hlt] at hP
      unfold comp2L at hP
      refine .inr ⟨wk.go i Y' S' H' ds eX gX rfl hlt, fun H'' => ∃ m', m' < ds.length - i ∧ ∃ Y' S' acc done, m' = ds.length - (i + 1) ∧ i + 1 ≤ ds.length ∧ Ext Y1 H1 Y' H'' ∧ Good K Y' S' H'' ∧ Y'.vol D ∧ D ∉ Y'.loc ∧ H'' D = some (.lst acc) ∧ RepL K Y' H'' done acc ∧
          done.length ≤ (i + 1) * 128 ∧ Pst K U Y1 H1 (PD K Q) ((comp2L G vs Fa G2 vs2 Fe ρ (ds.drop (i + 1)) S').bind fun ys S2 => .ok (.lst (done ++ ys)) S2), fun _ q => q, fun x H2 hy => ?_⟩
      obtain ⟨d', hd', e2, g2, k2, r2⟩ := wk.yld i Y' S' H' ds x H2 eX gX rfl hlt hy
      rw [List.getElem?_eq_getElem hlt] at hd'
      cases hd'
      have hD2 : H2 D = some (.lst acc) := k2 D _ hacc
      have rsw := ((rs1.mono eX).mono e2).wipe vs
      cases eg : G ds[i] (WF.wipe ρ vs) S' with
      | un => rw [eg] at hP; exact hP.elim
      | ex c T' => rw [eg] at hP; exact hP.elim
      | ok ρ1 S2 =>
        rw [eg] at hP
        simp only [Res.ok_noex, Res.ok_bind] at hP
        refine ⟨Y', S', WF.wipe ρ vs, ds[i], g2, rsw, r2, ?_⟩
        rw [eg]
        intro Y3 H3 e3 g3 σ3 rs3 k3 l3
        refine ⟨wipe_same hw k3 l3, ?_⟩
        have lX3 : D ∉ Y3.loc := fun z => by
          rcases e3.newl D z with q | q
          · exact lX q
          · rw [hD2] at q; cases q
        have hD3 : H3 D = some (.lst acc) := e3.keep D _ hD2 lX fun _ z => nomatch z
        refine tYes_intro ?_
        rw [if_pos rfl]
        -- what the inner clause walks
        cases ei : Fa ρ1 S2 with
        | un => rw [ei] at hP; exact hP.elim
        | ex c T' => rw [ei] at hP; exact hP.elim
        | ok p2 S3 =>
        rw [ei] at hP
        simp only [Res.ok_noex, Res.ok_bind] at hP
        cases p2 with
        | str s2 =>
          simp only at hP
          by_cases hl2 : s2.length ≤ 128
          case neg => rw [if_neg hl2] at hP; exact hP.elim
          rw [if_pos hl2] at hP
          have hlen2 : (signs s2).length ≤ 128 := by simpa [signs] using hl2
          generalize hds2 : signs s2 = ds2 at hP hlen2
          refine ⟨Y3, S2, ρ1, g3, rs3, ?_⟩
          rw [ei]
          intro Y4 H4 e4 g4 v2 rv2
          cases rv2
          refine ⟨_, rfl, ?_⟩
          have wk1 : ∀ Y H, Walk K (Its (sv s2)) ds2 none Y H := fun Y H => hds2 ▸ walk_str
          clear hds2
          have lX4 : D ∉ Y4.loc := fun z => by
            rcases e4.newl D z with q | q
            · exact lX3 q
            · rw [hD3] at q; cases q
          have hD4 : H4 D = some (.lst acc) := e4.keep D _ hD3 lX3 fun _ z => nomatch z
          have eX4 : Ext Y1 H1 Y4 H4 := ((eX.trans e2).trans e3).trans e4
          have rs4 := rs3.mono e4
          have racc4 := ((racc.mono e2).mono e3).mono e4
          have vX4 : Y4.vol D := e4.vol D (e3.vol D vX)
          have hP4 : Pst K U Y1 H1 (PD K Q) ((compL G2 vs2 WF.tYes Fe ρ1 (ds2.drop 0) S3).bind fun ys S4 => (comp2L G vs Fa G2 vs2 Fe ρ (ds.drop (i + 1)) S4).bind fun zs S5 => .ok (.lst (done ++ (ys ++ zs))) S5) := by
            have e0 : ∀ (x : Res (List WF.D)), ((x.bind fun ys S3 => (comp2L G vs Fa G2 vs2 Fe ρ (List.drop (i + 1) ds) S3).bind fun zs S4 => Res.ok (ys ++ zs) S4).bind fun ys S2 => Res.ok (WF.D.lst (done ++ ys)) S2) = x.bind fun ys S4 => (comp2L G vs Fa G2 vs2 Fe ρ (ds.drop (i + 1)) S4).bind fun zs S5 => .ok (WF.D.lst (done ++ (ys ++ zs))) S5 := fun x => by
              rw [Res.bind_assoc]
              congr 1
              funext ys S4
              rw [Res.bind_assoc]
              rfl
            rw [e0] at hP
            exact hP
          refine ⟨fun j k H' => ∃ Y' S' acc' done', k = ds2.length - j ∧ j ≤ ds2.length ∧ ExtV Y4 H4 Y' H' ∧ (∀ x, H' x = none → H4 x = none) ∧ Ext Y1 H1 Y' H' ∧ Good K Y' S' H' ∧ Y'.vol D ∧ D ∉ Y'.loc ∧ H' D = some (.lst acc') ∧ RepL K Y' H' done' acc' ∧ done'.length ≤ i * 128 + j ∧
            Pst K U Y1 H1 (PD K Q) ((compL G2 vs2 WF.tYes Fe ρ1 (ds2.drop j) S').bind fun ys S4 => (comp2L G vs Fa G2 vs2 Fe ρ (ds.drop (i + 1)) S4).bind fun zs S5 => .ok (.lst (done' ++ (ys ++ zs))) S5), ⟨_, Y4, S3, acc, done, rfl, Nat.zero_le _, Ext.refl.v, fun _ z => z, eX4, g4, vX4, lX4, hD4, racc4, by omega, hP4⟩, ?_⟩
          rintro j k H' ⟨Y', S', acc', done', rfl, hj', eX5, dm5, eXX, gX5, vX5, lX5, hacc5, racc5, hdone5, hP5⟩
          by_cases hlt2 : j < ds2.length
          · right
            rw [List.drop_eq_getElem_cons hlt2] at hP5
            unfold compL at hP5
            refine ⟨(wk1 Y' H').go j Y' S' H' ds2 Ext.refl gX5 rfl hlt2, fun H'' => ∃ k', k' < ds2.length - j ∧ ∃ Y' S' acc' done', k' = ds2.length - (j + 1) ∧ j + 1 ≤ ds2.length ∧ ExtV Y4 H4 Y' H'' ∧ (∀ x, H'' x = none → H4 x = none) ∧ Ext Y1 H1 Y' H'' ∧ Good K Y' S' H'' ∧ Y'.vol D ∧ D ∉ Y'.loc ∧ H'' D = some (.lst acc') ∧ RepL K Y' H'' done' acc' ∧ done'.length ≤ i * 128 + (j + 1) ∧
              Pst K U Y1 H1 (PD K Q) ((compL G2 vs2 WF.tYes Fe ρ1 (ds2.drop (j + 1)) S').bind fun ys S4 => (comp2L G vs Fa G2 vs2 Fe ρ (ds.drop (i + 1)) S4).bind fun zs S5 => .ok (.lst (done' ++ (ys ++ zs))) S5), fun _ q => q, fun x H6 hy2 => ?_⟩
            obtain ⟨d2, hd2, e6, g6, k6, r6⟩ := (wk1 Y' H').yld j Y' S' H' ds2 x H6 Ext.refl gX5 rfl hlt2 hy2
            rw [List.getElem?_eq_getElem hlt2] at hd2
            cases hd2
            have hD6 : H6 D = some (.lst acc') := k6 D _ hacc5
            have rsw2 := ((rs4.monoV eX5).mono e6).wipe vs2
            cases eg2 : G2 ds2[j] (WF.wipe ρ1 vs2) S' with
            | un => rw [eg2] at hP5; exact hP5.elim
            | ex c T' => rw [eg2] at hP5; exact hP5.elim
            | ok ρ2 S4 =>
            rw [eg2] at hP5
            simp only [Res.ok_noex, Res.ok_bind, WF.tYes, if_true] at hP5
            refine ⟨Y', S', WF.wipe ρ1 vs2, ds2[j], g6, rsw2, r6, ?_⟩
            rw [eg2]
            intro Y7 H7 e7 g7 σ7 rs7 k7 l7
            refine ⟨wipe_same hw2 k7 l7, ?_⟩
            have lX7 : D ∉ Y7.loc := fun z => by
              rcases e7.newl D z with q | q
              · exact lX5 q
              · rw [hD6] at q; cases q
            have hD7 : H7 D = some (.lst acc') := e7.keep D _ hD6 lX5 fun _ z => nomatch z
            refine tYes_intro ?_
            rw [if_pos rfl]
            cases ee : Fe ρ2 S4 with
            | un => rw [ee] at hP5; exact hP5.elim
            | ex c T' => rw [ee] at hP5; exact hP5.elim
            | ok y S5 =>
            rw [ee] at hP5
            simp only [Res.ok_noex, Res.ok_bind] at hP5
            refine ⟨Y7, S4, ρ2, g7, rs7, ?_⟩
            rw [ee]
            intro Y8 H8 e8 g8 v rv
            have lX8 : D ∉ Y8.loc := fun z => by
              rcases e8.newl D z with q | q
              · exact lX7 q
              · rw [hD7] at q; cases q
            have hD8 : H8 D = some (.lst acc') := e8.keep D _ hD7 lX7 fun _ z => nomatch z
            have vX8 : Y8.vol D := e8.vol D (e7.vol D vX5)
            have racc8 := ((racc5.mono e6).mono e7).mono e8
            have nt : ∀ xs, ¬ Rd H8 D (.tup xs) := fun xs q => by
              rcases q with q | ⟨o, q⟩
              · rw [hD8] at q; cases q
              · rw [hD8] at q; cases q
            have ev : ExtV Y8 H8 Y8 (upd H8 D (.lst (acc' ++ [v]))) := extV_upd vX8 nt
            have hDn4 : H1 D = none := hD
            refine ⟨acc', hD8, ?_, _, by omega, Y8, S5, acc' ++ [v], done' ++ [y], rfl, hlt2, ((((eX5.trans e6.v dm5).trans e7.v (fun x z => dm5 x (e6.dom x z))).trans e8.v (fun x z => dm5 x (e6.dom x (e7.dom x z)))).trans ev (fun x z => dm5 x (e6.dom x (e7.dom x (e8.dom x z))))), (fun x z => dm5 x (e6.dom x (e7.dom x (e8.dom x (by
              by_cases q : x = D
              · rw [q, upd_same] at z; cases z
              · rwa [upd_ne q] at z))))), ext_upd (((eXX.trans e6).trans e7).trans e8) hD, good_upd g8 vX8 lX8 nt, vX8, lX8, upd_same, (racc8.append (.cons rv .nil)).monoV ev, by simp; omega, ?_⟩
            · rw [← racc8.len, ← lim_eq]
              show _ < 16777216
              have : ds.length ≤ 65536 := hl
              have := hdone5
              omega
            · rw [Res.bind_assoc] at hP5
              simp only [Res.ok_bind] at hP5
              have this : ∀ (ys zs : List WF.D), done' ++ [y] ++ (ys ++ zs) = done' ++ (y :: ys ++ zs) := fun ys zs => by simp
              simp only [this]
              exact hP5
          · left
            have ej : j = ds2.length := by omega
            subst ej
            rw [List.drop_length] at hP5
            unfold compL at hP5
            simp only [Res.ok_bind, List.nil_append] at hP5
            have hs2 := (wk1 Y' H').stop Y' S' H' ds2 Ext.refl gX5 rfl
            refine ⟨hs2, ds.length - (i + 1), by omega, Y', S', acc', done', rfl, hlt, eXX, gX5, vX5, lX5, hacc5, racc5, by omega, hP5⟩
        | _ => exact hP.elim
    · have e : i = ds.length := by omega
      subst e
      left
      rw [List.drop_length] at hP
      unfold comp2L at hP
      simp only [Res.ok_bind, List.append_nil] at hP
      have hs := wk.stop Y' S' H' ds eX gX rfl
      refine ⟨hs, ?_⟩
      exact hP (Y'.show D lX) H' (ext_show vol1 eX hD lX) (good_show gX lX) _ (.lst (.inl hacc) (fun q => q.2 rfl) (racc.monoV (extV_show lX)))
end
section
variable {X : Cx} {U : Wh} {elt tg iter tg1 iter1 : Expr} {scope : Scope} {own : List (PySem.Str × Nat)} {pos spos : Pos} {G G2 : FG} {Fa Fe : FE} {it : FI} {ws ws2 : List Nat}
/-- name = [e for x in xs for y in a text] on one line, the name a local -/
theorem ps_setcomp2 {vs vs2 : List Nat} (i : Nat) {y : PySem.Str} {py : Pos} (hc : X.calm = true) (hN : X.N.Nodup) (hi : PiF X U tg iter it) (ok : BlkOk X.N X.env.scope scope own)
    (hg : ∀ (s : Shared) (H : Hp) (C : Addr) (cl : List (PySem.Str × Addr)) (fp : List Addr), PgF (X.blk s H scope (compEnvC scope cl C X.env) fp) U.no tg ws G)
    (ha : ∀ (s : Shared) (H : Hp) (C : Addr) (cl : List (PySem.Str × Addr)) (fp : List Addr), PeF (X.blk s H scope (compEnvC scope cl C X.env) fp) U.no iter1 Fa)
    (hg2 : ∀ (s : Shared) (H : Hp) (C : Addr) (cl : List (PySem.Str × Addr)) (fp : List Addr), PgF (X.blk s H scope (compEnvC scope cl C X.env) fp) U.no tg1 ws2 G2)
    (he : ∀ (s : Shared) (H : Hp) (C : Addr) (cl : List (PySem.Str × Addr)) (fp : List Addr), PeF (X.blk s H scope (compEnvC scope cl C X.env) fp) U.no elt Fe)
    (hsw : swapsWith (.ListComp elt [⟨tg, iter, [], 0⟩, ⟨tg1, iter1, [], 0⟩] scope pos) (some (.Name y py)) spos.line X.env = pure true)
    (hy : X.N[i]? = some y := by rfl) (hyl : X.env.scope.names.lookup y = some .local := by rfl)
    (hv : own.map (·.2) = vs := by rfl) (hw : ∀ i ∈ ws, i ∈ vs := by decide) (hv2 : ∀ i ∈ vs2, i ∈ vs := by decide) (hw2 : ∀ i ∈ ws2, i ∈ vs2 := by decide) (hs : ∀ x, foldedSetIterable iter X.env x = pure x := by intro _; rfl) (hs1 : ∀ env x, foldedSetIterable iter1 env x = pure x := by intro _ _; rfl) :
    PsF X U (.Assign [.Name y py] (.ListComp elt [⟨tg, iter, [], 0⟩, ⟨tg1, iter1, [], 0⟩] scope pos) spos) (sAsg (dComp2 it G vs Fa G2 vs2 Fe) (gName i)) := by
  obtain ⟨wi, p1, q1⟩ := hi
  subst hv
  have hg' : ∀ (s : Shared) (H : Hp) (C : Addr) (cl : List (PySem.Str × Addr)) (fp : List Addr), PG (X.blk s H scope (compEnvC scope cl C X.env) fp) tg (canonG (kwX X U) U.no ws G) := fun s H C cl fp => (hg s H C cl fp).canon
  have hg2' : ∀ (s : Shared) (H : Hp) (C : Addr) (cl : List (PySem.Str × Addr)) (fp : List Addr), PG (X.blk s H scope (compEnvC scope cl C X.env) fp) tg1 (canonG (kwX X U) U.no ws2 G2) := fun s H C cl fp => (hg2 s H C cl fp).canon
  have ha' : ∀ (s : Shared) (H : Hp) (C : Addr) (cl : List (PySem.Str × Addr)) (fp : List Addr), PI (X.blk s H scope (compEnvC scope cl C X.env) fp) tg1 iter1 (iStr (canonE (kwX X U) U.no Fa)) := fun s H C cl fp => pi_str (ha s H C cl fp).canon
  have he' : ∀ (s : Shared) (H : Hp) (C : Addr) (cl : List (PySem.Str × Addr)) (fp : List Addr), PE (X.blk s H scope (compEnvC scope cl C X.env) fp) elt (canonE (kwX X U) U.no Fe) := fun s H C cl fp => (he s H C cl fp).canon
  refine ⟨_, ps_setLc2 hc hN hy hyl hsw p1 ok hv2 hg' (fun _ _ _ _ _ => pts_nil) ha' hg2' (fun _ _ _ _ _ => pts_nil) he' hs hs1, fun Y S H σ ρ En g0 rs h => ?_⟩
  refine DE.comp2 (U0 := U.no) q1 hw hw2 Y S H σ ρ _ g0 rs ((Pst.bind h).imp fun d S1 Y1 H1 e1 g1 h1 v rv => ?_)
  exact h1.now g1 _ ((rs.mono e1).set rv i)
end
end WF

set_option Elab.async false
set_option linter.all false
set_option maxRecDepth 100000
set_option maxHeartbeats 4000000
/-! # Rules22: dicts walked, by keys or by pairs, locked meanwhile -/
namespace WF
open PySem L2 PyProof.Rows
section
variable {X : Cx} {U : Wh} {pins : List (Addr × Obj)} {σ : L2.St} {H : Hp} {s : Shared} {d : Addr} {o : Obj} {xs : List (NestedKey × Addr × Value)}
theorem frzX (I : Inv X pins σ H s) (h : H d = some (.frz o (DictX (kwX X U) d xs))) :
    (d == sysModules) = false ∧ s.heap.get? d = some o ∧ o.ExactDict ∧ ∃ (es : Array DictEntry) (ep : Nat), o.data = .dict es ep ∧ es.size = xs.length ∧
      ∀ (i : Nat) (hi : i < es.size), ∃ y, xs[i]? = some y ∧ es[i].key = .ref y.2.1 ∧ es[i].val = y.2.2 := by
  obtain ⟨hd, ⟨hs, o', es, ep, ho, hx, hdt, he, _⟩, _⟩ := I.hok d _ h
  rw [hd] at ho
  cases ho
  have hz := size_of_entries he
  refine ⟨hs, hd, hx, es, ep, hdt, hz, fun i hi => ?_⟩
  have hx : i < xs.length := hz ▸ hi
  have e := entry_at he i
  rw [Array.getElem?_eq_getElem hi, List.getElem?_eq_getElem hx, Option.map_some] at e
  have e' := Option.some.inj e
  exact ⟨xs[i], List.getElem?_eq_getElem hx, by rw [e']; rfl, by rw [e']; rfl⟩
end
/-- the keys of the locked dict at d -/
def ItxK (K : KW) (d : Addr) (o : Obj) (xs : List (NestedKey × Addr × Value)) : It :=
  ⟨fun i H => H d = some (.frz o (DictX K d xs)) ∧ i < xs.length, fun i H x H' => H' = H ∧ ∃ y, xs[i]? = some y ∧ x = .ref y.2.1, fun i H => H d = some (.frz o (DictX K d xs)) ∧ xs.length ≤ i⟩
/-- the pairs, each a new tuple -/
def ItxI (K : KW) (d : Addr) (o : Obj) (xs : List (NestedKey × Addr × Value)) : It :=
  ⟨fun i H => H d = some (.frz o (DictX K d xs)) ∧ i < xs.length, fun i H x H' => ∃ T y v, xs[i]? = some y ∧ x = .ref T ∧ H T = none ∧ RelV v y.2.2 ∧ H' = upd H T (.tup [.ref y.2.1, v]), fun i H => H d = some (.frz o (DictX K d xs)) ∧ xs.length ≤ i⟩
section
variable {P : Program} {w : World} {K : PySem.W.Frag} {cl : Cl} {tg : Expr} {d : Addr} {o : Obj} {es : Array DictEntry} {ep : Nat} {xs : List (NestedKey × Addr × Value)}
theorem turn_keysX (it : Addr) (hod : o.data = .dict es ep) : Turn P w K tg (ItxK ⟨P, w, K, cl⟩ d o xs) [it] it (fun i h => h.IsKeyIter it d i xs.length ep) where
  mem := by simp
  obj := fun i h st b hb => by
    have e : b = it := by simpa using hb
    subst e
    obtain ⟨oi, e, c, dd⟩ := st
    exact ⟨oi, e, fun v z => by rw [dd] at z; cases z⟩
  keep := fun i h h' st k => st.at fun oi e => k it (by simp) oi e
  item := by
    intro X hP hw hK hc i pins s σ H E I hf st hg
    subst hP hw hK
    obtain ⟨hd, hi⟩ := hg
    obtain ⟨f0, f1, f2, f3, f4, f5⟩ := hf it (by simp)
    obtain ⟨hs, hgd, hx, es', ep', hdt, hsz, hent⟩ := frzX (U := ⟨fun _ _ _ => True, cl⟩) I hd
    obtain ⟨rfl, rfl⟩ := dict_ep hod hdt
    rw [← hsz] at st
    have hi' : i < es'.size := by omega
    obtain ⟨y, hy, hk, _⟩ := hent i hi'
    refine wpAny_pyNext_keys_item_raw st ⟨o, hgd, hx, hdt⟩ hi' fun h' st' sb => ?_
    have I1 : Inv X pins σ H { s with heap := h' } := I.turned (t' := s.toks) (fun b ob hb e => (sb.2 b hb).trans e) f0 f1 f3 f4 f5
    obtain ⟨oi, e, c, dd⟩ := id st'
    refine ⟨_, rfl, go_of (s := { s with heap := h' }) e c dd (by decide) ⟨.ref y.2.1, H, I1, hk, ⟨rfl, y, hy, rfl⟩, ?_, fun b hb => (hf b hb).1⟩⟩
    show h'.IsKeyIter it d (i + 1) xs.length _
    rw [← hsz]
    exact st'
  done := by
    intro X hP hw hK hc i pins s σ H E I hf st hg
    subst hP hw hK
    obtain ⟨hd, hi⟩ := hg
    obtain ⟨f0, f1, f2, f3, f4, f5⟩ := hf it (by simp)
    obtain ⟨hs, hgd, hx, es', ep', hdt, hsz, _⟩ := frzX (U := ⟨fun _ _ _ => True, cl⟩) I hd
    obtain ⟨rfl, rfl⟩ := dict_ep hod hdt
    exact next_key_end (I.ok.hd hc) st hgd hdt hsz hi fun h' eb => ⟨rfl, I.turned (t' := s.toks) (fun b ob hb e => eb b ob hb e) f0 f1 f3 f4 f5⟩
  self := fun A i s Q E st h => wpAny_pyIter_keyiter st h
theorem turn_itemsX {elts : List Expr} {kk : Nat} {tpos : Pos} (it : Addr) (hod : o.data = .dict es ep) (hv : ∀ y ∈ xs, ∃ v, RelV v y.2.2) :
    Turn P w K (.Tuple elts kk tpos) (ItxI ⟨P, w, K, cl⟩ d o xs) [it] it (fun i h => ∃ ok ov, IsItemIter h it d i xs.length ep ok ov) where
  mem := by simp
  obj := fun i h st b hb => by
    have e : b = it := by simpa using hb
    subst e
    obtain ⟨ok, ov, e⟩ := st
    exact ⟨_, e, fun v z => nomatch z⟩
  keep := fun i h h' st k => let ⟨ok, ov, e⟩ := st; ⟨ok, ov, k it (by simp) _ e⟩
  item := by
    intro X hP hw hK hc i pins s σ H E I hf st hg
    subst hP hw hK
    obtain ⟨hd, hi⟩ := hg
    obtain ⟨hs, hgd, hx, es', ep', hdt, hsz, hent⟩ := frzX (U := ⟨fun _ _ _ => True, cl⟩) I hd
    obtain ⟨rfl, rfl⟩ := dict_ep hod hdt
    have hi' : i < es'.size := by omega
    obtain ⟨y, hy, hk, hval⟩ := hent i hi'
    obtain ⟨v, rv⟩ := hv y (List.mem_of_getElem? hy)
    obtain ⟨ok, ov, he⟩ := st
    rw [← hsz] at he
    have hlt : it < s.heap.objs.size := Heap.lt_size he
    refine wpAny_pyNext_items_item_raw he ⟨o, hgd, hx, hdt⟩ hi' fun h' ho hT hz hkp => ?_
    refine ⟨_, rfl, wpAny_letOwnedTupleGo_items (s := { s with heap := h' }) ho fun h'' he' sb => ?_⟩
    have hT2 : h''.get? s.heap.objs.size = some { cls := .type "tuple", data := .seq #[es'[i].key, es'[i].val] } := (sb.2 _ (Nat.ne_of_gt hlt)).trans hT
    have new : ObjOk X.prog X.w (upd H s.heap.objs.size (.tup [.ref y.2.1, v])) h'' s.heap.objs.size (.tup [.ref y.2.1, v]) :=
      ⟨by show 2 ≤ sizeLine; decide, [es'[i].key, es'[i].val], .cons hk (.cons (by rw [hval]; exact rv) .nil), ⟨_, hT2, rfl, _, rfl⟩⟩
    have I1 : Inv X pins σ (upd H s.heap.objs.size (.tup [.ref y.2.1, v])) { s with heap := h'' } :=
      I.turnedNew (t' := s.toks) (ch := [it]) (fun b ob hb e => (sb.2 b (by simpa using hb)).trans (hkp b ob (by simpa using hb) e)) hf (Nat.le_refl _) new
    refine ⟨.ref s.heap.objs.size, _, I1, rfl, ⟨_, y, v, hy, rfl, I.hok.fresh (Nat.le_refl _), rv, rfl⟩, ⟨es'[i].key, es'[i].val, ?_⟩, fun b hb => ?_⟩
    · rw [← hsz]; exact he'
    · have e : b = it := by simpa using hb
      rw [e, upd_ne (Nat.ne_of_lt hlt)]
      exact (hf it (by simp)).1
  done := by
    intro X hP hw hK hc i pins s σ H E I hf st hg
    subst hP hw hK
    obtain ⟨hd, hi⟩ := hg
    obtain ⟨f0, f1, f2, f3, f4, f5⟩ := hf it (by simp)
    obtain ⟨hs, hgd, hx, es', ep', hdt, hsz, _⟩ := frzX (U := ⟨fun _ _ _ => True, cl⟩) I hd
    obtain ⟨rfl, rfl⟩ := dict_ep hod hdt
    obtain ⟨ok, ov, he⟩ := st
    rw [← hsz] at he
    exact wpAny_pyNext_items_end_raw (I.ok.hd hc) he ⟨o, hgd, hx, hdt⟩ (by omega) fun h' eb => ⟨rfl, I.turned (t' := s.toks) (fun b ob hb e => eb b ob hb e) f0 f1 f3 f4 f5⟩
  self := fun A i s Q E st h => let ⟨_, _, e⟩ := st; PySem.W.kcp_self e h
end
section
variable {X : Cx} {cl : Cl} {tg e : Expr} {td : TE} {apos cpos : Pos}
def iKeysX (X : Cx) (cl : Cl) (td : TE) : TI := fun σ H R => td σ H fun x H1 => ∃ d o xs, x = .ref d ∧ H1 d = some (.frz o (DictX ⟨X.prog, X.w, X.K, cl⟩ d xs)) ∧ R (ItxK ⟨X.prog, X.w, X.K, cl⟩ d o xs) H1
def iItemsX (X : Cx) (cl : Cl) (td : TE) : TI := fun σ H R => td σ H fun x H1 => ∃ d o xs, x = .ref d ∧ H1 d = some (.frz o (DictX ⟨X.prog, X.w, X.K, cl⟩ d xs)) ∧ (∀ y ∈ xs, ∃ v, RelV v y.2.2) ∧ R (ItxI ⟨X.prog, X.w, X.K, cl⟩ d o xs) H1
theorem pi_keysX (he : PE X e td) : PI X tg e (iKeysX X cl td) := by
  refine ⟨fun pins s σ H R I h => ?_⟩
  refine thn (he.run pins s σ H _ I h) fun u s1 ⟨x, H1, I1, rx, d, o, xs, ex, hd, q⟩ => ?_
  subst ex
  obtain rfl : u = Value.ref d := rx
  obtain ⟨hs, hgd, hx, es, ep, hdt, hsz, _⟩ := frzX (U := ⟨fun _ _ _ => True, cl⟩) I1 hd
  refine iter_keys hs hgd hx hdt (pi_one (tk := s1.toks) I1 _ (turn_keysX _ hdt) ⟨_, Heap.get?_push_size _ rfl, rfl, ?_⟩ q)
  rw [hsz] <;> rfl
theorem pi_itemsX {elts : List Expr} {kk : Nat} {tpos : Pos} (he : PE X e td) (hbase : attributeBase e "items" X.env (eval e X.env) = eval e X.env := by rfl) (hline : (apos.endLine == cpos.line) = true := by rfl) :
    PI X (.Tuple elts kk tpos) (.Call (.Attribute e "items" apos) [] [] cpos) (iItemsX X cl td) := by
  refine ⟨fun pins s σ H R I h => ?_⟩
  refine wpAny_Call_method (T := "dict") (id := "dict.items") hbase rfl hline PySem.F.plainAttrs_dict PySem.F.slot_dict_items PySem.F.type_dict_items (thn (he.run pins s σ H _ I h) fun u s1 ⟨x, H1, I1, rx, d, o, xs, ex, hd, hv, q⟩ => ?_)
  subst ex
  obtain rfl : u = Value.ref d := rx
  obtain ⟨hs, hgd, hx, es, ep, hdt, hsz, _⟩ := frzX (U := ⟨fun _ _ _ => True, cl⟩) I1 hd
  have hraw : s1.heap.DictRaw d es ep := ⟨o, hgd, hx, hdt⟩
  refine ⟨hraw.typeIs, fun a ea => (by cases ea; exact ⟨o, hgd, hx.2.1⟩), ?_⟩
  have I2 : Inv X pins σ H1 { s1 with heap := s1.heap.push { cls := .type "dict_items", data := .fields #[.ref d] } } := I1.kept (t' := s1.toks) fun b ob q => Heap.get?_push_of_some _ q
  have fin : wpAny (model X.prog X.w) X.A (pyIter (.ref s1.heap.objs.size)) (PIE X pins σ (.Tuple elts kk tpos) R) X.xe { s1 with heap := s1.heap.push { cls := .type "dict_items", data := .fields #[.ref d] } } := by
    refine wpAny_pyIter_items_raw (d := d) ⟨_, Heap.get?_push_size _ rfl, rfl, rfl⟩ (hraw.at fun _ q => Heap.get?_push_of_some _ q) (pi_one (tk := s1.toks) I2 _ (turn_itemsX _ hdt hv) ⟨.none, .none, ?_⟩ q)
    rw [← hsz]
    exact Heap.get?_push_size _ rfl
  show wpAny _ _ (callWith cpos (.builtin "dict.items") [.ref d] [] []) _ X.xe s1
  exact method_meetsIn PySem.F.slot_dict_items PySem.F.entry_dict_items rfl (PySem.evalArgs_none ⟨rfl, hraw.typeIs, PySem.F.args_dict_items_1 _, _, meets_dict_items_raw d hs, ⟨es, ep, hraw⟩, fin⟩)
end
theorem relV_uniq {v v' : V} {u : Value} (h : RelV v u) (h' : RelV v' u) : v = v' := by
  cases v <;> cases v' <;> simp only [L2.RelV] at h h' <;> first
    | (obtain ⟨t, rfl⟩ := h; obtain ⟨t', e⟩ := h'; cases e; rfl)
    | (subst h; cases h'; rfl)
    | (subst h; obtain ⟨t', e⟩ := h'; cases e; done)
    | (obtain ⟨t, rfl⟩ := h; cases h'; done)
    | (obtain ⟨t, rfl⟩ := h; obtain ⟨t', e⟩ := h'; cases e; done)
theorem RepKV.at_ {K : KW} {Y : Lay} {H : Hp} : ∀ {kvs : List (D × D)} {xs : List (NestedKey × Addr × Value)} {i : Nat} {y : NestedKey × Addr × Value}, RepKV K Y H kvs xs → xs[i]? = some y →
    ∃ k d v, kvs[i]? = some (k, d) ∧ Rep K Y H k (.ref y.2.1) ∧ RelV v y.2.2 ∧ Rep K Y H d v
  | _, _, _, _, .nil, e => by simp at e
  | _, _, 0, _, .cons h1 h2 h3 h4 h5 t, e => by
    simp at e
    subst e
    exact ⟨_, _, _, rfl, h3, h4, h5⟩
  | _, _, i + 1, _, .cons h1 h2 h3 h4 h5 t, e => by
    obtain ⟨k, d, v, a, b⟩ := RepKV.at_ (i := i) t (by simpa using e)
    exact ⟨k, d, v, by simpa using a, b⟩
theorem RepKV.vals {K : KW} {Y : Lay} {H : Hp} : ∀ {kvs : List (D × D)} {xs : List (NestedKey × Addr × Value)}, RepKV K Y H kvs xs → ∀ y ∈ xs, ∃ v, RelV v y.2.2
  | _, _, .nil, y, h => by simp at h
  | _, _, .cons h1 h2 h3 h4 h5 t, y, h => by
    rcases List.mem_cons.mp h with e | e
    · subst e; exact ⟨_, h4⟩
    · exact t.vals y e
section
variable {K : KW} {Y : Lay} {H : Hp} {d : Addr} {o : Obj} {xs : List (NestedKey × Addr × Value)} {kvs : List (D × D)}
theorem itD_len {pr : Bool} : (itD pr kvs).length = kvs.length := by cases pr <;> simp [itD]
theorem walk_keysX (hd : H d = some (.frz o (DictX K d xs))) (r : RepKV K Y H kvs xs) : Walk K (ItxK K d o xs) (itD false kvs) none Y H := by
  have hl : (itD false kvs).length = xs.length := by rw [itD_len]; exact r.len
  refine ⟨fun Y2 S2 H2 es e2 g2 h => ?_, fun i Y2 S2 H2 es e2 g2 h hi => ?_, fun i Y2 S2 H2 es x H3 e2 g2 h hi hy => ?_⟩
  · cases h
    exact ⟨e2.frz d o _ hd, by omega⟩
  · cases h
    exact ⟨e2.frz d o _ hd, by omega⟩
  · cases h
    obtain ⟨rfl, y, hy, rfl⟩ := hy
    obtain ⟨k, dd, v, h1, h2, _⟩ := (r.monoV e2.v).at_ hy
    exact ⟨k, by simp [itD, h1], Ext.refl, g2, fun _ _ z => z, h2⟩
theorem walk_itemsX (hd : H d = some (.frz o (DictX K d xs))) (r : RepKV K Y H kvs xs) : Walk K (ItxI K d o xs) (itD true kvs) none Y H := by
  have hl : (itD true kvs).length = xs.length := by rw [itD_len]; exact r.len
  refine ⟨fun Y2 S2 H2 es e2 g2 h => ?_, fun i Y2 S2 H2 es e2 g2 h hi => ?_, fun i Y2 S2 H2 es x H3 e2 g2 h hi hy => ?_⟩
  · cases h
    exact ⟨e2.frz d o _ hd, by omega⟩
  · cases h
    exact ⟨e2.frz d o _ hd, by omega⟩
  · cases h
    obtain ⟨T, y, v, hy, rfl, hT, rv, rfl⟩ := hy
    obtain ⟨k, dd, v', h1, h2, h3, h4⟩ := (r.monoV e2.v).at_ hy
    have := relV_uniq rv h3
    subst this
    exact ⟨.tup [k, dd], by simp [itD, h1], Ext.new hT, g2.new hT, fun a o q => by rw [upd_ne (ne_of_none q hT)]; exact q, Rep.newT hT (.cons h2 (.cons h4 .nil))⟩
end
section
variable {X : Cx} {U : Wh} {tg e : Expr} {i : Nat} {apos cpos : Pos}
theorem frz_read {Y : Lay} {S : Store} {H : Hp} {n : Nat} {v : V} {kvs : List (D × D)} (g : Good (kwX X U) Y S H) (r : Rep (kwX X U) Y H (.loc n) v) (h : S[n]? = some (.frz kvs)) :
    ∃ a od xs, v = .ref a ∧ Y.loc[n]? = some a ∧ H a = some (.frz od (DictX (kwX X U) a xs)) ∧ RepKV (kwX X U) Y H kvs xs := by
  cases r with
  | loc hl =>
    obtain ⟨od, xs, h1, h2, h3⟩ := g.at' n _ _ h hl
    exact ⟨_, od, xs, rfl, hl, h1, h3⟩
theorem pi_frzK (he : PeF X U e (dVar i)) : PiF X U tg e (iFrz false i) := by
  obtain ⟨te, p, q⟩ := he
  refine ⟨_, pi_keysX (cl := U.cl) p, fun Y S H σ ρ R g rs h => q Y S H σ ρ _ g rs ?_⟩
  unfold iFrz at h
  split at h
  · rename_i n hn
    split at h
    · rename_i kvs hS
      unfold dVar
      rw [hn]
      intro Y1 H1 e1 g1 v rv
      obtain ⟨a, od, xs, rfl, hl, m1, m2⟩ := frz_read g1 rv hS
      exact ⟨a, od, xs, rfl, m1, h Y1 H1 e1 g1 _ (walk_keysX m1 m2)⟩
    · exact h.elim
  · exact h.elim
theorem pi_frzI {elts : List Expr} {kk : Nat} {tpos : Pos} (he : PeF X U e (dVar i)) (hbase : attributeBase e "items" X.env (eval e X.env) = eval e X.env := by rfl) (hline : (apos.endLine == cpos.line) = true := by rfl) :
    PiF X U (.Tuple elts kk tpos) (.Call (.Attribute e "items" apos) [] [] cpos) (iFrz true i) := by
  obtain ⟨te, p, q⟩ := he
  refine ⟨_, pi_itemsX (cl := U.cl) p hbase hline, fun Y S H σ ρ R g rs h => q Y S H σ ρ _ g rs ?_⟩
  unfold iFrz at h
  split at h
  · rename_i n hn
    split at h
    · rename_i kvs hS
      unfold dVar
      rw [hn]
      intro Y1 H1 e1 g1 v rv
      obtain ⟨a, od, xs, rfl, hl, m1, m2⟩ := frz_read g1 rv hS
      exact ⟨a, od, xs, rfl, m1, m2.vals, h Y1 H1 e1 g1 _ (walk_itemsX m1 m2)⟩
    · exact h.elim
  · exact h.elim
end
/-! ### a dict is locked while a statement runs -/
section
variable {K : KW} {Y Y2 : Lay} {S S2 : Store} {H H2 : Hp} {d : Addr} {od : Obj} {u : HO} {n : Nat}
theorem ext_unlock (h0 : H d = some u) (nt : ∀ xs, u ≠ .tup xs) (nf : ∀ o v, u ≠ .frz o v) (hl : Y.loc[n]? = some d) (e : Ext Y (upd H d (.frz od u)) Y2 H2) : Ext Y H Y2 (upd H2 d u) := by
  have hd : d ∈ Y.loc := List.mem_of_getElem? hl
  refine ⟨e.pre, e.vol, fun a o h n' ht => ?_, fun a xs h => ?_, fun a h => ?_, fun a h => ?_, fun a h => ?_, fun a o v h => ?_⟩
  · have z : a ≠ d := fun z => n' (z ▸ hd)
    rw [upd_ne z]
    exact e.keep a o (by rw [upd_ne z]; exact h) n' ht
  · have z : a ≠ d := fun z => by
      rw [z] at h
      rcases h with h | ⟨o, h⟩
      · rw [h0] at h; cases h; exact nt _ rfl
      · rw [h0] at h; cases h; exact nf _ _ rfl
    have := e.tups a xs (by unfold Rd; rw [upd_ne z]; exact h)
    unfold Rd
    rw [upd_ne z]
    exact this
  · rcases e.fresh a h with z | z
    · exact .inl z
    · by_cases q : a = d
      · rw [q]; exact .inl (Y.sub d hd)
      · rw [upd_ne q] at z; exact .inr z
  · rcases e.newl a h with z | z
    · exact .inl z
    · by_cases q : a = d
      · rw [q]; exact .inl hd
      · rw [upd_ne q] at z; exact .inr z
  · by_cases q : a = d
    · rw [q, upd_same] at h; cases h
    · rw [upd_ne q] at h
      have := e.dom a h
      rwa [upd_ne q] at this
  · have z : a ≠ d := fun z => by
      rw [z, h0] at h
      cases h
      exact nf _ _ rfl
    rw [upd_ne z]
    exact e.frz a o v (by rw [upd_ne z]; exact h)
theorem extV_unlock (hv : Y2.vol d) (h2 : H2 d = some (.frz od u)) (nt : ∀ xs, u ≠ .tup xs) : ExtV Y2 H2 Y2 (upd H2 d u) :=
  extV_upd hv fun xs q => by
    rcases q with q | ⟨o, q⟩
    · rw [h2] at q; cases q
    · rw [h2] at q; cases q; exact nt _ rfl
theorem good_unlock {mo : MO} (g : Good K Y2 S2 H2) (hl : Y2.loc[n]? = some d) (h2 : H2 d = some (.frz od u)) (nt : ∀ xs, u ≠ .tup xs) (m : MOk K Y2 (upd H2 d u) d mo) : Good K Y2 (S2.set n mo) (upd H2 d u) := by
  have hv : Y2.vol d := Y2.sub d (List.mem_of_getElem? hl)
  have ev := extV_unlock hv h2 nt
  refine ⟨by rw [List.length_set]; exact g.len, g.nd, fun k m' b h3 h4 => ?_, fun b hb => ?_, fun x hx => (g.tabs x hx).mono ev (upd_ne ((g.tabs x hx).nev hv))⟩
  · by_cases q : k = n
    · subst q
      rw [hl] at h4; cases h4
      have hk : k < S2.length := by rw [← g.len]; exact (List.getElem?_eq_some_iff.mp hl).1
      rw [List.getElem?_set_self hk] at h3
      cases h3
      exact m
    · rw [List.getElem?_set_ne (Ne.symm q)] at h3
      have ne : b ≠ d := fun z => by
        subst z
        obtain ⟨l1, e1⟩ := List.getElem?_eq_some_iff.mp h4
        obtain ⟨l2, e2⟩ := List.getElem?_eq_some_iff.mp hl
        exact q ((List.getElem_inj g.nd).mp (e1.trans e2.symm))
      exact (g.at' k m' b h3 h4).monoV ev (upd_ne ne)
  · by_cases q : b = d
    · rw [q, upd_same]; exact fun z => nomatch z
    · rw [upd_ne q]; exact g.there b hb
end
section
variable {X : Cx} {U : Wh} {st : Stmt} {e : Expr} {F : FS} {Fe : FE}
theorem slot_loc {K : KW} {Y : Lay} {H : Hp} {ρ : Env} {σ : L2.St} {i n : Nat} (rs : RepS K Y H ρ σ) (h : ρ[i]? = some (some (.loc n))) : ∃ a, Y.loc[n]? = some a := by
  obtain ⟨v, _, r⟩ := rs.2 i _ h
  cases r with
  | loc hl => exact ⟨_, hl⟩
theorem psf_lock (i : Nat) (h : PsF X U st F) : PsF X U st (sLock i F) := by
  obtain ⟨ts, p, q⟩ := h
  refine ⟨_, ps_lock p, fun Y S H σ ρ En g rs h => ?_⟩
  unfold sLock at h
  split at h
  · rename_i n hn
    split at h
    · rename_i kvs hS
      obtain ⟨d, hl⟩ := slot_loc rs hn
      obtain ⟨xs, m1, m2, m3⟩ := g.at' n _ d hS hl
      refine ⟨d, DictX (kwX X U) d xs, m1, trivial, fun od => ?_⟩
      have ex : Ext Y H Y (upd H d (.frz od (DictX (kwX X U) d xs))) := Ext.dict hl m1
      have g1 : Good (kwX X U) Y (S.set n (.frz kvs)) (upd H d (.frz od (DictX (kwX X U) d xs))) :=
        Good.chg g hl (fun zs z => by
          rcases z with z | ⟨o, z⟩
          · rw [m1] at z; cases z
          · rw [m1] at z; cases z) (fun o v z => by rw [m1] at z; cases z) ⟨od, xs, upd_same, m2, m3.monoV ex.v⟩
      refine q Y _ _ σ ρ _ g1 (rs.mono ex) ?_
      cases eF : F ρ (S.set n (.frz kvs)) with
      | un => rw [eF] at h; exact h.elim
      | ex c T => rw [eF] at h; exact h.elim
      | ok c S2 =>
        rw [eF] at h
        simp only [Res.ok_noex, Res.ok_bind] at h
        intro Y2 H2 e2 g2
        have f2 : H2 d = some (.frz od (DictX (kwX X U) d xs)) := e2.frz d od _ upd_same
        have nt : ∀ zs, DictX (kwX X U) d xs ≠ .tup zs := fun zs z => nomatch z
        have hl2 : Y2.loc[n]? = some d := ext_loc e2 hl
        have hv : Y2.vol d := Y2.sub d (List.mem_of_getElem? hl2)
        have ex2 : Ext Y H Y2 (upd H2 d (DictX (kwX X U) d xs)) := ext_unlock m1 nt (fun o v z => nomatch z) hl e2
        have ev := extV_unlock hv f2 nt
        have g3 : Good (kwX X U) Y2 (S2.set n (.dict kvs)) (upd H2 d (DictX (kwX X U) d xs)) := good_unlock g2 hl2 f2 nt ⟨xs, upd_same, m2, m3.monoV ex2.v⟩
        have h4 := h Y2 _ ex2 g3
        cases c with
        | next ρ2 => exact fun σ' r => ⟨f2, h4 σ' (r.monoV ev)⟩
        | ret v => exact fun x r => ⟨f2, h4 x (r.monoV ev)⟩
        | brk ρ2 => exact fun σ' r => ⟨f2, h4 σ' (r.monoV ev)⟩
        | cnt ρ2 => exact fun σ' r => ⟨f2, h4 σ' (r.monoV ev)⟩
    · exact h.elim
  · exact h.elim
theorem pf_lock (i : Nat) (h : PeF X U e Fe) : PeF X U e (dLock i Fe) := by
  obtain ⟨ts, p, q⟩ := h
  refine ⟨_, pe_lock p, fun Y S H σ ρ Q g rs h => ?_⟩
  unfold dLock at h
  split at h
  · rename_i n hn
    split at h
    · rename_i kvs hS
      obtain ⟨d, hl⟩ := slot_loc rs hn
      obtain ⟨xs, m1, m2, m3⟩ := g.at' n _ d hS hl
      refine ⟨d, DictX (kwX X U) d xs, m1, trivial, fun od => ?_⟩
      have ex : Ext Y H Y (upd H d (.frz od (DictX (kwX X U) d xs))) := Ext.dict hl m1
      have g1 : Good (kwX X U) Y (S.set n (.frz kvs)) (upd H d (.frz od (DictX (kwX X U) d xs))) :=
        Good.chg g hl (fun zs z => by
          rcases z with z | ⟨o, z⟩
          · rw [m1] at z; cases z
          · rw [m1] at z; cases z) (fun o v z => by rw [m1] at z; cases z) ⟨od, xs, upd_same, m2, m3.monoV ex.v⟩
      refine q Y _ _ σ ρ _ g1 (rs.mono ex) ?_
      cases eF : Fe ρ (S.set n (.frz kvs)) with
      | un => rw [eF] at h; exact h.elim
      | ex c T => rw [eF] at h; exact h.elim
      | ok c S2 =>
        rw [eF] at h
        simp only [Res.ok_noex, Res.ok_bind] at h
        intro Y2 H2 e2 g2 x r
        have f2 : H2 d = some (.frz od (DictX (kwX X U) d xs)) := e2.frz d od _ upd_same
        have nt : ∀ zs, DictX (kwX X U) d xs ≠ .tup zs := fun zs z => nomatch z
        have hl2 : Y2.loc[n]? = some d := ext_loc e2 hl
        have hv : Y2.vol d := Y2.sub d (List.mem_of_getElem? hl2)
        have ex2 : Ext Y H Y2 (upd H2 d (DictX (kwX X U) d xs)) := ext_unlock m1 nt (fun o v z => nomatch z) hl e2
        have ev := extV_unlock hv f2 nt
        have g3 : Good (kwX X U) Y2 (S2.set n (.dict kvs)) (upd H2 d (DictX (kwX X U) d xs)) := good_unlock g2 hl2 f2 nt ⟨xs, upd_same, m2, m3.monoV ex2.v⟩
        exact ⟨f2, h Y2 _ ex2 g3 x (r.monoV ev)⟩
    · exact h.elim
  · exact h.elim
end
end WF

set_option Elab.async false
set_option linter.all false
set_option maxRecDepth 100000
set_option maxHeartbeats 4000000
/-! # Rules23: min of a list of data -/
namespace WF
open PySem L2 PyProof.Rows
mutual
theorem toks_py : ∀ d : D, PySem.W.keyToks (toPy d) = d.toks
  | .non => rfl
  | .bl b => rfl
  | .int i => rfl
  | .str s => by simp [toPy, PySem.W.keyToks, D.toks]
  | .tup ds => by unfold toPy PySem.W.keyToks D.toks; exact tokss_py ds
  | .lst ds => by unfold toPy PySem.W.keyToks D.toks; exact tokss_py ds
  | .loc _ => rfl
  | .fn _ _ => rfl
  | .exc _ => rfl
theorem tokss_py : ∀ ds : List D, PySem.W.keyToksAll (toPys ds) = D.tokss ds
  | [] => rfl
  | d :: ds => by unfold toPys PySem.W.keyToksAll D.tokss; rw [toks_py d, tokss_py ds]
end
theorem tokLt_eq (a b : Int ⊕ Cs) : PyProof.Rows.itemLt a b = tokLt a b := by cases a <;> cases b <;> rfl
theorem toksLt_eq : ∀ a b : List (Int ⊕ Cs), PyProof.Rows.lexLt PyProof.Rows.itemOrd a b = toksLt a b
  | [], [] => rfl
  | [], _ :: _ => rfl
  | _ :: _, [] => rfl
  | x :: r, y :: t => by
    rw [PyProof.Rows.lex_cons, toksLt_eq r t]
    show (PyProof.Rows.itemLt x y || _) = _
    rw [tokLt_eq]
    show (_ || (!PyProof.Rows.itemLt y x && _)) = _
    rw [tokLt_eq]
    rfl
theorem lt_py (a b : D) : PySem.W.dataLt (toPy a) (toPy b) = a.lt b := by
  unfold PySem.W.dataLt D.lt
  rw [toks_py, toks_py, toksLt_eq]
mutual
theorem alike_py : ∀ a b : D, a.alike b = true → PySem.W.alike (toPy a) (toPy b) = true ∧ toPy a ≠ .none
  | .bl _, b, h => by cases b <;> simp [D.alike] at h; exact ⟨rfl, fun z => nomatch z⟩
  | .int _, b, h => by cases b <;> simp [D.alike] at h; exact ⟨rfl, fun z => nomatch z⟩
  | .str _, b, h => by cases b <;> simp [D.alike] at h; exact ⟨rfl, fun z => nomatch z⟩
  | .lst xs, b, h => by
    cases b <;> simp [D.alike] at h
    rename_i ys
    exact ⟨by unfold toPy PySem.W.alike; exact alikes_py xs ys h, fun z => by unfold toPy at z; cases z⟩
  | .tup xs, b, h => by
    cases b <;> simp [D.alike] at h
    rename_i ys
    exact ⟨by unfold toPy PySem.W.alike; exact alikes_py xs ys h, fun z => by unfold toPy at z; cases z⟩
  | .non, b, h => by simp [D.alike] at h
  | .loc _, b, h => by simp [D.alike] at h
  | .fn _ _, b, h => by simp [D.alike] at h
  | .exc _, b, h => by simp [D.alike] at h
theorem alikes_py : ∀ xs ys : List D, D.alikes xs ys = true → PySem.W.alikeAll (toPys xs) (toPys ys) = true
  | [], ys, _ => by unfold toPys PySem.W.alikeAll; cases toPys ys <;> rfl
  | x :: xs, [], _ => by unfold toPys PySem.W.alikeAll; rfl
  | x :: xs, y :: ys, h => by
    unfold D.alikes at h
    rw [Bool.and_eq_true] at h
    unfold toPys PySem.W.alikeAll
    rw [(alike_py x y h.1).1, alikes_py xs ys h.2]
    rfl
end
theorem toPys_map : ∀ ds : List D, toPys ds = ds.map toPy
  | [] => rfl
  | d :: ds => by unfold toPys; rw [toPys_map ds]; rfl
theorem toPys_getD (ds : List D) (i : Nat) : (toPys ds).getD i .none = toPy (ds.getD i .non) := by
  rw [toPys_map, List.getD_eq_getElem?_getD, List.getD_eq_getElem?_getD, List.getElem?_map]
  cases ds[i]? <;> rfl
section
variable {prog : Program} {w : World} {A : Around} {E : Value → Shared → Prop} {s : Shared}
/-- min of a list of alike data, told by its place -/
theorem min_at {l : Addr} {vs : Array Value} {x : PyData} {xs : List PyData} {as : List Addr} {Q : Value → Shared → Prop} (hh : A.handled = none) (hl : s.heap.IsList l vs) (hr : ReadsAll s.heap vs.toList (x :: xs) as) (ha : PySem.W.AlikeAll (x :: xs)) (hu : A.units + 1 + PyData.depthAll (x :: xs) < cLine)
    (h : ∀ v h' tk, vs[argBest (fun i j => PySem.W.dataLt ((x :: xs).getD i .none) ((x :: xs).getD j .none)) xs.length]? = some v → (∀ b o, s.heap.get? b = some o → h'.get? b = some o) → Q v { s with heap := h', toks := tk }) :
    wpAny (model prog w) A (call (.builtin "min") [.ref l]) Q E s := by
  have hn : vs.size = xs.length + 1 := PySem.W.readsAll_len hr
  refine call_min_walkH (PySem.W.iter_listW (A := A.in1) hh hl fun s₂ e W st hfp hw hk => ?_)
  refine ⟨_, _, _, _, _, _, _, s.heap, _, rfl, W, st, hfp, by omega, hw, hk, PySem.W.cmpIn_lt (A := A.in1) hr ha (by show A.units + 1 + _ < _; exact hu), fun v s' hP m => ?_⟩
  obtain ⟨h', tk, rfl, hk'⟩ := PySem.W.moved_old e rfl m
  have e1 : vs.size - 1 = xs.length := by omega
  rw [e1] at hP
  exact h v h' tk hP hk'
end
section
variable {X : Cx} {U : Wh}
def rMinD (X : Cx) (U : Wh) : List V → Hp → VK → Prop := fun vs H Q => ∃ Y d ds a xs, vs = [.ref a] ∧ SqL X.K H a xs ∧ RepL (kwX X U) Y H (d :: ds) xs ∧ D.plains (d :: ds) = true ∧ (∀ x ∈ d :: ds, ∀ y ∈ d :: ds, x.alike y = true) ∧ D.depths (d :: ds) ≤ 40 ∧
  ∀ v, xs[argBest (fun i j => ((d :: ds).getD i .non).lt ((d :: ds).getD j .non)) ds.length]? = some v → Q v H
theorem cr_minD (hc : X.calm = true) (hu : X.A.units + 64 < cLine) : CallR X (.builtin "min") (rMinD X U) := by
  intro pins s σ H vs us Q I r h
  obtain ⟨Y, d, ds, a, xs, rfl, hs, hr, hp, hal, hdep, q⟩ := h
  obtain ⟨its, rv, hl, _⟩ := I.list hs
  rw [Vals.ref1 r]
  obtain ⟨as, hra⟩ := Dp.readsAll I _ _ _ (hr.dp hp) rv
  have hpy : toPys (d :: ds) = toPy d :: toPys ds := rfl
  rw [hpy] at hra
  have mem : ∀ x ∈ toPy d :: toPys ds, ∃ y ∈ d :: ds, x = toPy y := fun x hx => by
    rw [← hpy, toPys_map] at hx
    obtain ⟨y, hy, e⟩ := List.mem_map.mp hx
    exact ⟨y, hy, e.symm⟩
  have ha : PySem.W.AlikeAll (toPy d :: toPys ds) := by
    refine ⟨fun x hx y hy => ?_, fun x hx => ?_⟩
    · obtain ⟨x', hx', rfl⟩ := mem x hx
      obtain ⟨y', hy', rfl⟩ := mem y hy
      exact (alike_py _ _ (hal x' hx' y' hy')).1
    · obtain ⟨x', hx', rfl⟩ := mem x hx
      exact (alike_py _ _ (hal x' hx' x' hx')).2
  have hd2 : PyData.depthAll (toPy d :: toPys ds) ≤ 40 := by
    rw [← hpy, toPys_depth]; exact hdep
  refine min_at (I.ok.hd hc) hl.isList (by simpa using hra) ha (by omega) fun v h' tk hv hk => ?_
  have eb : (fun i j => PySem.W.dataLt ((toPy d :: toPys ds).getD i .none) ((toPy d :: toPys ds).getD j .none)) = fun i j => ((d :: ds).getD i .non).lt ((d :: ds).getD j .non) := by
    funext i j
    rw [← hpy, toPys_getD, toPys_getD, lt_py]
  have el : (toPys ds).length = ds.length := by rw [toPys_map, List.length_map]
  rw [eb, el] at hv
  have hlen : xs.length = its.length := rv.length
  have hv' : its[argBest (fun i j => ((d :: ds).getD i .non).lt ((d :: ds).getD j .non)) ds.length]? = some v := by simpa using hv
  obtain ⟨x, hx, rx⟩ : ∃ x, xs[argBest (fun i j => ((d :: ds).getD i .non).lt ((d :: ds).getD j .non)) ds.length]? = some x ∧ L2.RelV x v := by
    have hi := (List.getElem?_eq_some_iff.mp hv').1
    have hx := List.getElem?_eq_getElem (l := xs) (show argBest (fun i j => ((d :: ds).getD i .non).lt ((d :: ds).getD j .non)) ds.length < xs.length by omega)
    obtain ⟨u, hu, ru⟩ := rv.get hx
    rw [hv'] at hu
    cases hu
    exact ⟨_, hx, ru⟩
  exact ⟨x, H, I.kept (t' := tk) hk, rx, q x hx⟩
theorem c_minL (hc : X.calm = true) (hu : X.A.units + 64 < cLine) : CallF X U (.builtin "min") (f1 bMinL) := by
  refine ⟨_, cr_minD (U := U) hc hu, fun Y S H ds xs Q g r h => ?_⟩
  unfold f1 at h
  split at h
  · cases r with
    | cons ra rn =>
      cases rn
      unfold bMinL at h
      split at h
      · rename_i d ds e
        obtain ⟨hcond, h⟩ := ite_ok h
        simp only [Bool.and_eq_true, decide_eq_true_eq] at hcond
        obtain ⟨⟨h1, h2⟩, h3⟩ := hcond
        obtain ⟨p, zs, rfl, k1, k2⟩ := lstOf_read g ra e
        refine ⟨Y, d, ds, p, zs, rfl, k1, k2, h1, fun x hx y hy => ?_, h3, fun v hv => ?_⟩
        · exact List.all_eq_true.mp (List.all_eq_true.mp h2 x hx) y hy
        · obtain ⟨dd, hd1, hd2⟩ := k2.get' hv
          have e2 := (PySem.W.argBest_fold D.lt .non d ds ds.length (Nat.le_refl _)).2
          rw [List.take_length] at e2
          have e3 : minOf d ds = dd := by
            show ds.foldl (fun a y => if y.lt a = true then y else a) d = dd
            rw [← e2, List.getD_eq_getElem?_getD, hd1]
            rfl
          rw [e3] at h
          exact h.val g hd2
      · exact h.elim
  · exact h.elim
end
end WF

set_option Elab.async false
set_option linter.all false
set_option maxRecDepth 100000
set_option maxHeartbeats 4000000
/-! # Rules24: sorted(set(..)) of texts -/
namespace WF
open PySem PySem.Spec L2 PyProof.Rows PySem.Froz

/-! ### plain -/
theorem perm_sub {α : Type} [DecidableEq α] : ∀ (l ks : List α), l.Nodup → (∀ x ∈ l, x ∈ ks) → ks.length = l.length → ks.Perm l
  | [], ks, _, _, e => by
    cases ks with
    | nil => exact .nil
    | cons _ _ => cases e
  | x :: l, ks, nd, h, e => by
    obtain ⟨n1, n2⟩ := List.nodup_cons.mp nd
    have hx : x ∈ ks := h x List.mem_cons_self
    have p := List.perm_cons_erase hx
    refine p.trans (List.Perm.cons x (perm_sub l (ks.erase x) n2 (fun y hy => ?_) ?_))
    · rcases List.mem_cons.mp (p.mem_iff.mp (h y (List.mem_cons_of_mem _ hy))) with q | q
      · exact absurd (q ▸ hy) n1
      · exact q
    · have := p.length_eq
      rw [List.length_cons] at this
      rw [List.length_cons] at e
      omega

theorem nodup_len {α : Type} [DecidableEq α] : ∀ {l us : List α}, l.Nodup → (∀ x ∈ l, x ∈ us) → l.length ≤ us.length
  | [], _, _, _ => Nat.zero_le _
  | x :: l, us, nd, h => by
    obtain ⟨n1, n2⟩ := List.nodup_cons.mp nd
    have p := List.perm_cons_erase (h x List.mem_cons_self)
    have ih := nodup_len (l := l) (us := us.erase x) n2 fun y hy => by
      rcases List.mem_cons.mp (p.mem_iff.mp (h y (List.mem_cons_of_mem _ hy))) with q | q
      · exact absurd (q ▸ hy) n1
      · exact q
    have := p.length_eq
    rw [List.length_cons] at this
    rw [List.length_cons]
    omega

/-! ### a set of texts -/
theorem tail_ris {ep : Nat} {es1 : Array (Int × Value)} {t2 : SetTable} {wd : Bool} (r : Ris t2.place.toList) : Ris (tailTx ep es1 t2 wd).2.2.place.toList := by
  unfold tailTx
  split
  · exact relayAll_ris _ _ _
  · exact r
theorem tail_led {ep : Nat} {es1 : Array (Int × Value)} {t2 : SetTable} {wd : Bool} : (tailTx ep es1 t2 wd).2.2.led = t2.led := by
  unfold tailTx
  split
  · exact relayAll_led _ _ _
  · rfl
theorem addTx_ris {hs : Int} {v : Value} {D : SD} (r : Ris D.2.2.place.toList) : Ris (addTx hs v D).2.2.place.toList := by
  have r1 := layNew_ris D.2.2 D.1 hs v r
  unfold addTx
  refine tail_ris ?_
  split
  · exact r1
  · exact r1
theorem addTx_led {hs : Int} {v : Value} {D : SD} : (addTx hs v D).2.2.led = D.2.2.led := by
  have r1 := layNew_led D.2.2 D.1 hs v
  unfold addTx
  refine tail_led.trans ?_
  split
  · exact r1
  · exact r1

/-- the set at a holds the texts l -/
def SetX (P : Program) (w : World) (h : Heap) (a : Addr) (l : List PySem.Str) : Prop :=
  ∃ D : SD, h.get? a = some (sObj "set" D) ∧ TxOk P w D l ∧ l.Nodup ∧ l.length < scanBound ∧ Ris D.2.2.place.toList ∧ (w.params.followText "set-order" = true ∨ D.2.2.led = true)
section
variable {P : Program} {w : World} {A : Around} {E : Value → Shared → Prop} {s : Shared} {h h' : Heap} {a : Addr} {l : List PySem.Str}
theorem SetX.at (R : SetX P w h a l) (k : ∀ o, h.get? a = some o → h'.get? a = some o) : SetX P w h' a l := by
  obtain ⟨D, ho, r⟩ := R
  exact ⟨D, k _ ho, r⟩
theorem setX_new {h : Heap} {a : Addr} (ho : h.get? a = some { cls := .type "set", dict := none, data := .set #[] 0 (.fresh 0 0 (!w.params.followText "set-order")) }) : SetX P w h a [] :=
  ⟨(#[], 0, .fresh 0 0 (!w.params.followText "set-order")), ho, TxOk.nil (by rfl), List.nodup_nil, by decide, List.Pairwise.nil, by
    show _ ∨ (!w.params.followText "set-order") = true
    cases w.params.followText "set-order"
    · exact .inr rfl
    · exact .inl rfl⟩
/-- one text more -/
theorem setX_add {k : PySem.Str} {u : Tok} {Q : Bool → Shared → Prop} (R : SetX P w s.heap a l) (room : l.length + 1 < scanBound)
    (h : ∀ b h' l', Heap.SameBut a s.heap h' → SetX P w h' a l' → (∀ x, x ∈ l' ↔ x ∈ l ∨ x = k) → Q b { s with heap := h' }) :
    wpAny (model P w) A (setAddHashed a (.str k u) (hashStr w k)) Q E s := by
  obtain ⟨D, ho, F, nd, hz, hr, hl⟩ := R
  by_cases hk : k ∈ l
  · obtain ⟨es, ep, t⟩ := D
    have hd : (sObj "set" (es, ep, t)).data = .set es ep t := rfl
    have hf : t.fits es.size = true := F.fit
    have hel : ElemsOf (strKind P w) es.toList := F.el
    have hsz : es.size = l.length := F.sz
    have hb0 : es.size < scanBound := by omega
    have hkey : (strKind P w).is k (.str k u) = true := is_str k u
    unfold setAddHashed setAddHashedIn
    refine wpAny_holding (wpAny_bind (wpAny_setState_of ho hd hf ?_))
    dsimp only
    rw [byScan_of rfl hb0 hel]
    simp only [↓reduceIte]
    unfold setAddByScan
    refine wpAny_bind ?_
    refine wpAny_bind (wpAny_rule ?_)
    refine wpAny_bind (wpAny_setScan_of (knd := strKind P w) (k := k) hkey ho hd hf hel ?_)
    cases hfi : List.findIdx? (fun e => (strKind P w).is k e.2) es.toList with
    | none =>
      exfalso
      obtain ⟨e, he, q⟩ := (F.mem k).mp hk
      have c := List.findIdx?_eq_none_iff.mp hfi e he
      rw [q] at c
      cases c
    | some j =>
      dsimp only
      refine wpAny_pure (wpAny_pure ?_)
      exact h _ s.heap l (Heap.SameBut.refl a s.heap) ⟨_, ho, F, nd, hz, hr, hl⟩ fun x => ⟨.inl, fun z => z.elim id fun e => e ▸ hk⟩
  · refine add_x ho F hk room ?_
    refine h _ _ (k :: l) (Heap.SameBut.update s.heap a _) ⟨_, get_upd _ ho rfl, add_ok u F, List.nodup_cons.mpr ⟨hk, nd⟩, room, addTx_ris hr, by rw [addTx_led]; exact hl⟩ fun x => ?_
    rw [List.mem_cons]
    exact Or.comm

/-- the loop of set.update over texts -/
theorem setX_update {I : Addr} {fp wr : List Addr} {G : Array GenState → Array GenState → Prop} {n : Nat} {Pv : Nat → Value → Prop} {St : Nat → Shared → Prop} {R : Result → Shared → Prop}
    (W : WalksS P w A.in1 I fp wr G n Pv St) (S : Addr) (hSf : S ∉ fp) (xs us : List PySem.Str) (hn : n = xs.length) (hu : ∀ x ∈ xs, x ∈ us) (hb : us.length + 1 < scanBound) (hval : ∀ i v, Pv i v → ∃ k t, xs[i]? = some k ∧ v = .str k t) :
    ∀ (k i : Nat) (s : Shared) (l : List PySem.Str), n - i = k → i ≤ n → St i s → SetX P w s.heap S l → (∀ x, x ∈ l ↔ x ∈ xs.take i) →
      (∀ s' l', Moved (S :: wr) G s s' → SetX P w s'.heap S l' → (∀ x, x ∈ l' ↔ x ∈ xs) → R (.ok (.ret .none)) s') →
      codeAny (model P w) A (.builtin "set.update.loop" ⟨[.ref S, .ref I], []⟩) R s := by
  have hSw : S ∉ wr := fun h => hSf (W.sub _ h)
  have hsub : ∀ b ∈ wr, b ∈ S :: wr := fun b hb => List.mem_cons_of_mem _ hb
  intro k
  induction k with
  | zero =>
    intro i s l hk' hi hst hS hm0 hR
    have hin : i = n := by omega
    subst hin
    refine codeAny_builtin F.entry_set_update_loop ?_
    rw [Around.under_plainId F.plain_set_update_loop _]
    show wpAny _ A.in1 (pyNext (.ref I) >>= _) _ _ s
    refine wpAny_bind (W.done s _ _ hst fun s' hm => ?_)
    show wpAny _ A.in1 (ret Value.none) _ _ s'
    have e : xs.take i = xs := List.take_of_length_le (by omega)
    rw [e] at hm0
    exact wpAny_pure (hR s' l (hm.mono hsub) (hS.at fun o e => hm.heap S o hSw e) hm0)
  | succ k ih =>
    intro i s l hk' hi hst hS hm0 hR
    have hlt : i < n := by omega
    refine codeAny_builtin F.entry_set_update_loop ?_
    rw [Around.under_plainId F.plain_set_update_loop _]
    show wpAny _ A.in1 (pyNext (.ref I) >>= _) _ _ s
    refine wpAny_bind (W.item i s _ _ hlt hst fun v s' hP hst' hm => ?_)
    obtain ⟨z, t, hz, rfl⟩ := hval i v hP
    have hS' : SetX P w s'.heap S l := hS.at fun o e => hm.heap S o hSw e
    have hll : l.length ≤ us.length := by
      obtain ⟨D, _, _, nd, _⟩ := hS
      exact nodup_len nd fun x hx => hu x (List.mem_of_mem_take ((hm0 x).mp hx))
    show wpAny _ A.in1 (holding [Value.str z t] (setAdd S (.str z t)) >>= _) _ _ s'
    refine wpAny_bind (wpAny_holding ?_)
    unfold setAdd
    refine wpAny_holding ?_
    refine wpAny_bind ((strKind P w).pyHash (k := z) (is_str _ _) ?_)
    refine setX_add (s := { s' with toks := s'.toks + 1 }) hS' (by omega) fun b h' l2 hsb hS2 hm2 => ?_
    have hm3 : ∀ x, x ∈ l2 ↔ x ∈ xs.take (i + 1) := fun x => by
      rw [hm2 x, hm0 x, List.take_add_one, hz]
      simp [List.mem_append]
    refine wpAny_pure ⟨plainId_quiet F.plain_set_update_loop _, ih (i + 1) _ l2 (by omega) hlt (W.frame _ s' _ _ hst' (Nat.le_succ _) fun b hb o e => ?_) hS2 hm3 fun s'' l3 hm'' hS'' hm4 => ?_⟩
    · rw [hsb.2 b (fun h : b = S => hSf (by rw [← h]; exact hb))]; exact e
    · refine hR s'' l3 (Moved.trans W.gtrans ((hm.mono hsub).then_heap (Nat.le_succ _) fun b o hb e => ?_) hm'') hS'' hm4
      rw [hsb.2 b (fun h : b = S => hb (by rw [h]; exact List.mem_cons_self))]; exact e
theorem strs_len : ∀ {vs : List Value} {ss : List PySem.Str}, StrsAre vs ss → vs.length = ss.length
  | _, _, h => h.length
theorem strs_get {vs : List Value} {ss : List PySem.Str} (h : StrsAre vs ss) : ∀ (i : Nat) (v : Value), vs[i]? = some v → ∃ k t, ss[i]? = some k ∧ v = .str k t := by
  induction h with
  | nil => intro i v e; simp at e
  | cons x t h ih =>
    intro i v e
    cases i with
    | zero => simp at e; subst e; exact ⟨x, t, rfl, rfl⟩
    | succ i => exact ih i v (by simpa using e)
/-- a text's signsX -/
def signsX (x : PySem.Str) : List PySem.Str := x.cps.toList.map fun c => ⟨#[c]⟩
set_option maxHeartbeats 3200000 in
theorem call_setX_list {l : Addr} {items : Array Value} (xs us : List PySem.Str) {Q : Value → Shared → Prop} (hh : A.handled = none) (hl : s.heap.IsList l items) (hit : StrsAre items.toList xs) (hu : ∀ x ∈ xs, x ∈ us) (hb : us.length + 1 < scanBound)
    (h : ∀ (h' : Heap) (tk : Nat) (l' : List PySem.Str), SetX P w h' s.heap.objs.size l' → (∀ x, x ∈ l' ↔ x ∈ xs) → (∀ b o, s.heap.get? b = some o → h'.get? b = some o) → Q (.ref s.heap.objs.size) { s with heap := h', toks := tk }) :
    wpAny (model P w) A (call (.type "set") [.ref l]) Q E s := by
  have hisz : items.size = xs.length := by
    have q := strs_len hit
    rw [Array.length_toList] at q
    exact q
  obtain ⟨c, tl, hmro⟩ := PySem.F.called_set.mro
  have hmade := PySem.F.called_set.made
  have hsub := PySem.F.called_set.sub
  refine wpAny_call (codeAny_of_tree ?_)
  show wpAny _ _ (callAny (.type "set") _) _ _ _
  refine wpAny_pure ⟨Code.quiet_builtin _ (by decide +kernel), codeAny_builtin PySem.F.entry_type_call ?_⟩
  rw [Around.under_plain (weight_type_call_type "set" [.ref l] []) rfl]
  have h1 := PySem.F.called_set.notType
  have h2 := PySem.F.called_set.canCreate
  have hct := PySem.F.typeCall_set_1 (.ref l)
  repeat (any_goals (first | assumption | wp_step))

  refine codeAny_mono (code_set_led1 (.ref l) (E := E) (Q₁ := fun obj s₁ => obj = .ref s.heap.objs.size ∧ s₁ = { s with heap := s.heap.push { cls := .type "set", dict := none, data := .set #[] 0 (.fresh 0 0 (!w.params.followText "set-order")) } }) ⟨rfl, rfl⟩) fun r s₁ hr => ?_
  cases r with
  | error e => exact hr
  | ok fl =>
    cases fl with
    | ret obj =>
      obtain ⟨rfl, rfl⟩ := hr
      have hS : (s.heap.push { cls := .type "set", dict := none, data := .set #[] 0 (.fresh 0 0 (!w.params.followText "set-order")) }).get? s.heap.objs.size = some { cls := .type "set", dict := none, data := .set #[] 0 (.fresh 0 0 (!w.params.followText "set-order")) } := Heap.get?_push_size _ rfl
      have hT : Shared.TypeIs { s with heap := s.heap.push { cls := .type "set", dict := none, data := .set #[] 0 (.fresh 0 0 (!w.params.followText "set-order")) } } (.ref s.heap.objs.size) "set" := ⟨_, hS, rfl⟩
      have hli := PySem.F.called_set.init.lookup
      have hbi := PySem.F.called_set.init.bind (.ref s.heap.objs.size)
      repeat (any_goals (first | assumption | wp_step))

      refine codeAny_mono (codeAny_call_builtin (R := wants (fun r s₂ => r = .none ∧ ∃ h' tk l', s₂ = { s with heap := h', toks := tk } ∧ SetX P w h' s.heap.objs.size l' ∧ (∀ y, y ∈ l' ↔ y ∈ xs) ∧
          (∀ b o, s.heap.get? b = some o → h'.get? b = some o)) E) PySem.F.called_set.init.plain PySem.F.entry_set_init (check_set_init_1 hT ?_)) fun r₂ s₂ hr₂ => ?_
      · obtain ⟨ol, hol, hcl, nl, hdl⟩ := hl
        obtain ⟨ocls, odict, odata, oslots⟩ := ol
        simp only at hcl hdl
        subst hcl; subst hdl
        have hol' : (s.heap.push { cls := .type "set", dict := none, data := .set #[] 0 (.fresh 0 0 (!w.params.followText "set-order")) }).get? l = some { cls := .type "list", dict := odict, data := .seq items nl, slots := oslots } := Heap.get?_push_of_some _ hol
        have hsls := PySem.F.sub_list_set
        have hslf := PySem.F.sub_list_frozenset
        have hne : (Value.type "list" == Value.type "dict") = false := by decide
        have hl1 : (s.heap.push { cls := .type "set", dict := none, data := .set #[] 0 (.fresh 0 0 (!w.params.followText "set-order")) }).IsList l items := ⟨_, hol', rfl, nl, rfl⟩
        unfold Builtin.«set.__init__» noKeywords Builtin.Frozenset.updateFrom
        generalize hPI : pyIter = PI
        wp_walk
        subst hPI

        refine wpAny_pyIter_list hl1 ?_
        refine wpAny_bind (wpAny_runValue ?_)
        have hlS : l < s.heap.objs.size := Heap.lt_size hol
        have hh3 : A.in1.in1.in1.handled = none := by simp [hh]
        have hz1 : (s.heap.push { cls := .type "set", dict := none, data := .set #[] 0 (.fresh 0 0 (!w.params.followText "set-order")) }).objs.size = s.heap.objs.size + 1 := Heap.size_push ..
        have hneI : l ≠ (s.heap.push { cls := .type "set", dict := none, data := .set #[] 0 (.fresh 0 0 (!w.params.followText "set-order")) }).objs.size := by
          rw [Heap.size_push]; exact Nat.ne_of_lt (Nat.lt_succ_of_lt hlS)
        have hSf : s.heap.objs.size ∉ [(s.heap.push { cls := .type "set", dict := none, data := .set #[] 0 (.fresh 0 0 (!w.params.followText "set-order")) }).objs.size, l] := by
          rw [Heap.size_push]; simp only [List.mem_cons, List.mem_singleton, List.not_mem_nil, or_false, not_or]
          exact ⟨Nat.ne_of_lt (Nat.lt_succ_self _), Nat.ne_of_gt hlS⟩
        have hval : ∀ (i : Nat) (v : Value), items[i]? = some v → ∃ k t, xs[i]? = some k ∧ v = .str k t := fun i v hv => strs_get hit i v (by rw [Array.getElem?_toList]; exact hv)
        refine setX_update ((Walks.list hh3 _ l hneI items).toS) s.heap.objs.size
          hSf xs us hisz hu hb hval (items.size - 0) 0 _ [] (by omega) (Nat.zero_le _)
          ⟨⟨_, Heap.get?_push_size _ rfl, rfl, rfl⟩, (hl1.push _)⟩ ?hS0 (fun x => by simp) ?hR
        case hS0 =>
          have hget : ((s.heap.push { cls := .type "set", dict := none, data := .set #[] 0 (.fresh 0 0 (!w.params.followText "set-order")) }).push { cls := .type "list_iterator", data := .fields #[.ref l, .int 0 0] }).get? s.heap.objs.size
              = some { cls := .type "set", dict := none, data := .set #[] 0 (.fresh 0 0 (!w.params.followText "set-order")) } := Heap.get?_push_of_some _ hS
          exact setX_new hget
        case hR =>
          intro s' l' hm hS' hm'
          obtain ⟨h', g2, d', tk', os'⟩ := s'
          have eg : g2 = s.gens := hm.gens
          have ed : d' = s.drawn := hm.drawn
          have eo : os' = s.os := hm.os
          subst eg; subst ed; subst eo
          show wpAny _ _ _ _ _ _
          refine wpAny_pure ?_
          show wpAny _ _ (ret Value.none) _ _ _
          refine wpAny_pure ⟨rfl, h', tk', l', rfl, hS', hm', fun b o e => ?_⟩
          have hb0 : b < s.heap.objs.size := Heap.lt_size e
          have hb1 : b ≠ s.heap.objs.size := Nat.ne_of_lt hb0
          have hb2 : b ≠ (s.heap.push { cls := .type "set", dict := none, data := .set #[] 0 (.fresh 0 0 (!w.params.followText "set-order")) }).objs.size := by
            rw [Heap.size_push]; exact Nat.ne_of_lt (Nat.lt_succ_of_lt hb0)
          exact hm.heap b o (by simp only [List.mem_cons, List.mem_singleton, List.not_mem_nil, or_false, not_or]; exact ⟨hb1, hb2⟩) (Heap.get?_push_of_some _ (Heap.get?_push_of_some _ e))

      · cases r₂ with
        | error e => exact hr₂
        | ok fl₂ =>
          cases fl₂ with
          | ret r =>
            obtain ⟨rfl, h', tk, l', rfl, hS', hm', hk'⟩ := hr₂
            repeat (any_goals (first | assumption | wp_step))
            exact h _ _ _ hS' hm' hk'
          | _ => exact hr₂.elim
    | _ => exact hr.elim

set_option maxHeartbeats 3200000 in
theorem call_setX_str {x : PySem.Str} {t : Tok} (us : List PySem.Str) {Q : Value → Shared → Prop} (hh : A.handled = none) (hu : ∀ y ∈ signsX x, y ∈ us) (hb : us.length + 1 < scanBound)
    (h : ∀ (h' : Heap) (tk : Nat) (l' : List PySem.Str), SetX P w h' s.heap.objs.size l' → (∀ y, y ∈ l' ↔ y ∈ signsX x) → (∀ b o, s.heap.get? b = some o → h'.get? b = some o) → Q (.ref s.heap.objs.size) { s with heap := h', toks := tk }) :
    wpAny (model P w) A (call (.type "set") [.str x t]) Q E s := by
  obtain ⟨c, tl, hmro⟩ := PySem.F.called_set.mro
  have hmade := PySem.F.called_set.made
  have hsub := PySem.F.called_set.sub
  refine wpAny_call (codeAny_of_tree ?_)
  show wpAny _ _ (callAny (.type "set") _) _ _ _
  refine wpAny_pure ⟨Code.quiet_builtin _ (by decide +kernel), codeAny_builtin PySem.F.entry_type_call ?_⟩
  rw [Around.under_plain (weight_type_call_type "set" [.str x t] []) rfl]
  have h1 := PySem.F.called_set.notType
  have h2 := PySem.F.called_set.canCreate
  have hct := PySem.F.typeCall_set_1 (.str x t)
  repeat (any_goals (first | assumption | wp_step))

  refine codeAny_mono (code_set_led1 (.str x t) (E := E) (Q₁ := fun obj s₁ => obj = .ref s.heap.objs.size ∧ s₁ = { s with heap := s.heap.push { cls := .type "set", dict := none, data := .set #[] 0 (.fresh 0 0 (!w.params.followText "set-order")) } }) ⟨rfl, rfl⟩) fun r s₁ hr => ?_
  cases r with
  | error e => exact hr
  | ok fl =>
    cases fl with
    | ret obj =>
      obtain ⟨rfl, rfl⟩ := hr
      have hS : (s.heap.push { cls := .type "set", dict := none, data := .set #[] 0 (.fresh 0 0 (!w.params.followText "set-order")) }).get? s.heap.objs.size = some { cls := .type "set", dict := none, data := .set #[] 0 (.fresh 0 0 (!w.params.followText "set-order")) } := Heap.get?_push_size _ rfl
      have hT : Shared.TypeIs { s with heap := s.heap.push { cls := .type "set", dict := none, data := .set #[] 0 (.fresh 0 0 (!w.params.followText "set-order")) } } (.ref s.heap.objs.size) "set" := ⟨_, hS, rfl⟩
      have hli := PySem.F.called_set.init.lookup
      have hbi := PySem.F.called_set.init.bind (.ref s.heap.objs.size)
      repeat (any_goals (first | assumption | wp_step))

      refine codeAny_mono (codeAny_call_builtin (R := wants (fun r s₂ => r = .none ∧ ∃ h' tk l', s₂ = { s with heap := h', toks := tk } ∧ SetX P w h' s.heap.objs.size l' ∧ (∀ y, y ∈ l' ↔ y ∈ signsX x) ∧
          (∀ b o, s.heap.get? b = some o → h'.get? b = some o)) E) PySem.F.called_set.init.plain PySem.F.entry_set_init (check_set_init_1 hT ?_)) fun r₂ s₂ hr₂ => ?_
      · have hsls := PySem.F.sub_str_set
        have hslf := PySem.F.sub_str_frozenset
        have hne : (Value.type "str" == Value.type "dict") = false := by decide
        unfold Builtin.«set.__init__» noKeywords Builtin.Frozenset.updateFrom
        generalize hPI : pyIter = PI
        generalize hIA : Builtin.Frozenset.isAnySet = IA
        wp_walk
        subst hIA
        refine Fz.anySet ?_
        wp_walk
        subst hPI
        refine wpAny_pyIter_str fun o St W st => ?_
        refine wpAny_bind (wpAny_runValue ?_)
        have hh3 : A.in1.in1.in1.handled = none := by simp [hh]
        have hSf : s.heap.objs.size ∉ [(s.heap.push { cls := .type "set", dict := none, data := .set #[] 0 (.fresh 0 0 (!w.params.followText "set-order")) }).objs.size] := by
          rw [Heap.size_push]; simp only [List.mem_singleton]
          exact Nat.ne_of_lt (Nat.lt_succ_self _)
        have hval : ∀ (i : Nat) (v : Value), SignAt x i v → ∃ k t, (signsX x)[i]? = some k ∧ v = .str k t := fun i v ⟨c, u, hc, hv⟩ => ⟨⟨#[c]⟩, u, by
          unfold signsX
          rw [List.getElem?_map, Array.getElem?_toList, hc]
          rfl, hv⟩
        have hn : x.cps.size = (signsX x).length := by
          unfold signsX
          rw [List.length_map, Array.length_toList]
        refine setX_update (W A.in1.in1.in1 hh3).toS s.heap.objs.size
          hSf (signsX x) us hn hu hb hval (x.cps.size - 0) 0 _ [] (by omega) (Nat.zero_le _)
          st ?hS0 (fun x => by simp) ?hR
        case hS0 => exact setX_new (Heap.get?_push_of_some _ hS)
        case hR =>
          intro s' l' hm hS' hm'
          obtain ⟨h', g2, d', tk', os'⟩ := s'
          have eg : g2 = s.gens := hm.gens
          have ed : d' = s.drawn := hm.drawn
          have eo : os' = s.os := hm.os
          subst eg; subst ed; subst eo
          show wpAny _ _ _ _ _ _
          refine wpAny_pure ?_
          show wpAny _ _ (ret Value.none) _ _ _
          refine wpAny_pure ⟨rfl, h', tk', l', rfl, hS', hm', fun b o e => ?_⟩
          have hb0 : b < s.heap.objs.size := Heap.lt_size e
          have hb1 : b ≠ s.heap.objs.size := Nat.ne_of_lt hb0
          have hb2 : b ≠ (s.heap.push { cls := .type "set", dict := none, data := .set #[] 0 (.fresh 0 0 (!w.params.followText "set-order")) }).objs.size := by
            rw [Heap.size_push]; exact Nat.ne_of_lt (Nat.lt_succ_of_lt hb0)
          exact hm.heap b o (by simp only [List.mem_cons, List.mem_singleton, List.not_mem_nil, or_false, not_or]; exact ⟨hb1, hb2⟩) (Heap.get?_push_of_some _ (Heap.get?_push_of_some _ e))

      · cases r₂ with
        | error e => exact hr₂
        | ok fl₂ =>
          cases fl₂ with
          | ret r =>
            obtain ⟨rfl, h', tk, l', rfl, hS', hm', hk'⟩ := hr₂
            repeat (any_goals (first | assumption | wp_step))
            exact h _ _ _ hS' hm' hk'
          | _ => exact hr₂.elim
    | _ => exact hr.elim

end
end WF

set_option Elab.async false
set_option linter.all false
set_option maxRecDepth 100000
set_option maxHeartbeats 4000000
/-! # Rules25: sorted(set(..)): the call, the expression -/
namespace WF
open PySem PySem.Spec L2 PyProof.Rows PySem.Froz

section
variable {P : Program} {w : World} {A : Around} {E : Value → Shared → Prop} {s : Shared} {a : Addr} {l : List PySem.Str}
theorem txOk_perm {es : Array (Int × Value)} {ep : Nat} {t : SetTable} (F : TxOk P w (es, ep, t) l) (nd : l.Nodup) {vs : List Value} (p : vs.Perm (es.toList.map (·.2))) : ∃ ss, StrsAre vs ss ∧ ss.Perm l := by
  have hv : ∀ v, v ∈ vs → ∃ x u, v = .str x u := fun v hv => by
    obtain ⟨e, he, q⟩ := List.mem_map.mp (p.mem_iff.mp hv)
    obtain ⟨⟨k, h1, h2⟩, _⟩ := F.el e he
    obtain ⟨u, hu⟩ := Value.isStrOf_shape (show Value.isStrOf k e.2 = true from h1)
    exact ⟨k, u, by rw [← q]; exact hu⟩
  refine ⟨vs.map strOf, strsAre_map vs hv, perm_sub l _ nd (fun x hx => ?_) ?_⟩
  · obtain ⟨e, he, h1⟩ := (F.mem x).mp hx
    obtain ⟨u, hu⟩ := Value.isStrOf_shape (show Value.isStrOf x e.2 = true from h1)
    exact List.mem_map.mpr ⟨e.2, p.mem_iff.mpr (List.mem_map.mpr ⟨e, he, rfl⟩), by rw [hu]; rfl⟩
  · rw [List.length_map, p.length_eq, List.length_map, Array.length_toList]
    exact F.sz
theorem sorted_setX {Q : Value → Shared → Prop} (R : SetX P w s.heap a l) (hh : A.handled = none)
    (hQ : ∀ s' p (out : Array Value) (c : Nat) (ss : List PySem.Str), (∀ b o, s.heap.get? b = some o → s'.heap.get? b = some o) → s'.gens = s.gens → s'.os = s.os → s.heap.objs.size ≤ p →
      s'.heap.get? p = some (seqObj "list" out c) → StrsAre out.toList ss → ss.Perm l → sortedS ss = true → Q (.ref p) s') :
    wpAny (model P w) A (call (.builtin "sorted") [.ref a]) Q E s := by
  obtain ⟨⟨es, ep, t⟩, ho, F, nd, hb, hr, hl⟩ := R
  have hsz : es.size = l.length := F.sz
  have hf : t.fits es.size = true := F.fit
  refine Calls.call_function_entry kind_sorted plain_sorted entry_sorted (args_sorted1 _) ?_
  unfold Builtin.«sorted»
  refine wpAny_bind (m := checkCount "sorted" 1 1 _) (wpAny_pure ?_)
  refine wpAny_bind (collect_set (A := A.in1) hh ⟨_, ho, rfl, rfl⟩ hf (show es.size < scanBound by omega) hr hl fun s1 vs k1 hz g1 o1 pm => ?_)
  obtain ⟨ss, hS, hp⟩ := txOk_perm F nd pm
  have hvl : vs.length = l.length := by rw [pm.length_eq, List.length_map, Array.length_toList]; exact hsz
  have hL : vs.length ≤ sizeLine := by rw [hvl]; exact fits_of_scanBound hb
  refine wpAny_bind (wpAny_newList ?_ hL)
  have hoL : (s1.heap.push (seqObj "list" vs.toArray 0)).get? s1.heap.objs.size = some (seqObj "list" vs.toArray 0) := Heap.get?_push_size _ rfl
  refine wpAny_bind (wpAny_holding (wpAny_call_entry slot_list_sort ⟨_, hoL, rfl⟩ entry_list_sort (list_sort_treeKAny strKind_oneLt hoL hS.keysOf (fun v₁ v₂ rest e => keyKind_strs (by rw [← e]; exact hS)) hL fun st' a1 a2 => ⟨_, rfl, ?_⟩) (args_list_sort _)))
  obtain ⟨ss', h1, h2, h3⟩ := sorted_out_str hS a1 a2
  obtain ⟨c, hc⟩ := sortedHeap_at (vs := vs) (out := (arrOf st').map (·.2)) hoL
  refine wpAny_pure ⟨_, rfl, hQ _ s1.heap.objs.size _ c ss' (fun b u e => ?_) g1 o1 hz hc h1 (h2.trans hp) h3⟩
  have q := k1 b u e
  have hlt := Heap.lt_size q
  show (sortedHeap (s1.heap.push (seqObj "list" vs.toArray 0)) s1.heap.objs.size vs _).get? b = some u
  rw [sortedHeap_old (Nat.ne_of_lt hlt) (by rw [size_push']; exact Nat.lt_succ_of_lt hlt)]
  exact Heap.get?_push_of_some _ q
end

/-! ### the readings -/
def SetXO (P : Program) (w : World) (a : Addr) (l : List PySem.Str) : HO := .ext fun h => SetX P w h a l
section
variable {X : Cx} {U : Wh}
theorem setXO_new {w : World} {P : Program} {H : Hp} {h : Heap} {a : Addr} {l : List PySem.Str} (R : SetX P w h a l) : ObjOk P w H h a (SetXO P w a l) := by
  have ⟨_, ho, _⟩ := R
  exact ⟨R, ⟨_, ho⟩, fun h1 h2 p k => SetX.at p k⟩
theorem setXO_get {pins : List (Addr × Obj)} {σ : L2.St} {H : Hp} {s : Shared} {a : Addr} {l : List PySem.Str} (I : Inv X pins σ H s) (ha : H a = some (SetXO X.prog X.w a l)) : SetX X.prog X.w s.heap a l := (I.hok a _ ha).1
/-- set(text), set(list of texts) -/
def rSetX (X : Cx) : List V → Hp → VK → Prop := fun vs H Q => ∃ xs : List PySem.Str, ((∃ a, vs = [.ref a] ∧ SqL X.K H a (xs.map V.str)) ∨ (∃ x, vs = [.str x] ∧ xs = signsX x)) ∧ (∃ us : List PySem.Str, (∀ x ∈ xs, x ∈ us) ∧ us.length + 1 < scanBound) ∧
  ∀ (p : Addr) (l : List PySem.Str), (∀ x, x ∈ l ↔ x ∈ xs) → H p = none → Q (.ref p) (upd H p (SetXO X.prog X.w p l))
theorem cr_setX (hc : X.calm = true) : CallR X (.type "set") (rSetX X) := by
  intro pins s σ H vs us Q I r h
  obtain ⟨xs, hv, ⟨ys, hy, hb⟩, q⟩ := h
  rcases hv with ⟨a, rfl, hs⟩ | ⟨x, rfl, rfl⟩
  · obtain ⟨its, rv, hl, _⟩ := I.list hs
    rw [Vals.ref1 r]
    refine call_setX_list xs ys (I.ok.hd hc) hl.isList (by simpa using rv.strs) hy hb fun h' tk l' hS hm hk => ?_
    exact ⟨.ref _, upd H s.heap.objs.size (SetXO X.prog X.w s.heap.objs.size l'), I.laid (t' := tk) (fun b u e => hk b u e) (Nat.le_refl _) (setXO_new hS), rfl, q _ l' hm (I.hok.fresh (Nat.le_refl _))⟩
  · obtain ⟨u, rfl, ru⟩ := r.one
    obtain ⟨t, rfl⟩ := ru
    refine call_setX_str ys (I.ok.hd hc) hy hb fun h' tk l' hS hm hk => ?_
    exact ⟨.ref _, upd H s.heap.objs.size (SetXO X.prog X.w s.heap.objs.size l'), I.laid (t' := tk) (fun b u e => hk b u e) (Nat.le_refl _) (setXO_new hS), rfl, q _ l' hm (I.hok.fresh (Nat.le_refl _))⟩
/-- sorted(a set of texts) -/
def rSortX (X : Cx) : List V → Hp → VK → Prop := fun vs H Q => ∃ (a : Addr) (l : List PySem.Str), vs = [.ref a] ∧ H a = some (SetXO X.prog X.w a l) ∧
  ∀ (p : Addr) (ss : List PySem.Str), ss.Perm l → l.Nodup → sortedS ss = true → H p = none → Q (.ref p) (upd H p (.lst (ss.map V.str)))
theorem cr_sortX (hc : X.calm = true) : CallR X (.builtin "sorted") (rSortX X) := by
  intro pins s σ H vs us Q I r h
  obtain ⟨a, l, rfl, ha, q⟩ := h
  rw [Vals.ref1 r]
  have R := setXO_get I ha
  have nd : l.Nodup := by obtain ⟨D, _, _, nd, _⟩ := R; exact nd
  have hlen : l.length < scanBound := by obtain ⟨D, _, _, _, h, _⟩ := R; exact h
  refine sorted_setX R (I.ok.hd hc) fun s' p out c ss k g1 o1 hz ho hS hp hs => ?_
  have hlen2 : (ss.map V.str).length ≤ sizeLine := by rw [List.length_map, hp.length_eq]; exact fits_of_scanBound hlen
  have hn : H p = none := I.hok.fresh hz
  have J : Inv X pins σ (upd H p (.lst (ss.map V.str))) { s with heap := s'.heap, gens := s'.gens, drawn := s'.drawn, toks := s'.toks } :=
    I.call (ch := []) (Un.laid k hz hn) (I.hok.laid k hz ⟨hlen2, out.toList, c, vals_of_strs hS, ho⟩) (by rw [g1]; exact I.bare) (fun _ z => nomatch z)
  have e : s' = { s with heap := s'.heap, gens := s'.gens, drawn := s'.drawn, toks := s'.toks } := by
    cases s'
    cases s
    cases o1
    rfl
  rw [e]
  exact ⟨.ref p, _, J, rfl, q p ss hp nd hs hn⟩

theorem ltCps_cs : ∀ a b : List Nat, ltCps a b = ltCs a b
  | [], [] => rfl
  | [], _ :: _ => rfl
  | _ :: _, [] => rfl
  | a :: r, b :: t => by
    unfold ltCps ltCs
    rw [ltCps_cs r t]
    by_cases h : a < b
    · simp [h]
    · by_cases h2 : a = b
      · simp [h2]
      · simp [h, h2]
theorem rising_up : ∀ (p : PySem.Str) (l : List PySem.Str), risingS p l = true → (p :: l).Nodup → ((p :: l).map fun x => x.cps.toList).Pairwise fun a b => ltCs a b = true
  | p, [], _, _ => by simp
  | p, x :: r, h, nd => by
    have h' : (!ltCps x.cps.toList p.cps.toList && risingS x r) = true := h
    rw [Bool.and_eq_true, Bool.not_eq_true', ltCps_cs] at h'
    obtain ⟨n1, n2⟩ := List.nodup_cons.mp nd
    have ih := rising_up x r h'.2 n2
    have hpx : ltCs p.cps.toList x.cps.toList = true := by
      rcases lts_tri p.cps.toList x.cps.toList with q | q | q
      · exact q
      · exfalso
        refine n1 ?_
        have : p = x := by
          obtain ⟨⟨p⟩⟩ := p
          obtain ⟨⟨x⟩⟩ := x
          simp at q
          rw [q]
        rw [this]
        exact List.mem_cons_self
      · rw [h'.1] at q; cases q
    rw [List.map_cons, List.pairwise_cons]
    refine ⟨fun z hz => ?_, ih⟩
    rw [List.map_cons] at hz ih
    rcases List.mem_cons.mp hz with e | e
    · rw [e]; exact hpx
    · exact lts_trans hpx ((List.pairwise_cons.mp ih).1 z e)
theorem sorted_up {l : List PySem.Str} (h : sortedS l = true) (nd : l.Nodup) : (l.map fun x => x.cps.toList).Pairwise fun a b => ltCs a b = true := by
  cases l with
  | nil => exact .nil
  | cons p r => exact rising_up p r h nd
/-- what sorted gives of a set is sortU of the texts -/
theorem sorted_sortU {xs : List Cs} {l ss : List PySem.Str} (hm : ∀ x, x ∈ l ↔ x ∈ xs.map sv) (hp : ss.Perm l) (nd : l.Nodup) (hs : sortedS ss = true) : ss = (sortU xs).map sv := by
  have nd2 : ss.Nodup := hp.nodup_iff.mpr nd
  have e : (ss.map fun x => x.cps.toList) = sortU xs := up_uniq (sorted_up hs nd2) (sortU_up xs) fun z => by
    rw [sortU_mem, List.mem_map]
    constructor
    · rintro ⟨x, hx, rfl⟩
      obtain ⟨y, hy, rfl⟩ := List.mem_map.mp ((hm x).mp (hp.mem_iff.mp hx))
      simpa using hy
    · intro hz
      exact ⟨sv z, hp.mem_iff.mpr ((hm _).mpr (List.mem_map.mpr ⟨z, hz, rfl⟩)), by simp⟩
  rw [← e, List.map_map]
  have : (sv ∘ fun x : PySem.Str => x.cps.toList) = id := by
    funext x
    obtain ⟨⟨x⟩⟩ := x
    rfl
  rw [this, List.map_id]
theorem signsX_sv (s : Cs) : signsX (sv s) = (s.map fun c => [c]).map sv := by
  unfold signsX
  rw [List.map_map]
  rfl
theorem repL_strs {K : KW} {Y : Lay} {H : Hp} : ∀ xs : List Cs, RepL K Y H (xs.map D.str) ((xs.map sv).map V.str)
  | [] => .nil
  | x :: r => .cons (.str x) (repL_strs r)
variable {e : Expr} {F : FE}
/-- sorted(set(e)) of texts -/
theorem pf_sortset {x1 x2 : PySem.Str} {p1 p2 pos1 pos2 : Pos} (hc : X.calm = true) (ha : PeF X U e F)
    (hv1 : bootBuiltins x1 = some (.builtin "sorted")) (hm1 : X.mg x1 = none) (hv2 : bootBuiltins x2 = some (.type "set")) (hm2 : X.mg x2 = none)
    (hg1 : Gl X x1 := by rfl) (hn1 : x1 ≠ "__name__" := by decide) (hd1 : (x1 == ("__debug__" : PySem.Str)) = false := by decide)
    (hg2 : Gl X x2 := by rfl) (hn2 : x2 ≠ "__name__" := by decide) (hd2 : (x2 == ("__debug__" : PySem.Str)) = false := by decide)
    (hs2 : starEach [e] X.env = (false, eval e X.env) :: starEach [] X.env := by rfl) (hpl2 : (backTo pos2 (starEach [] X.env)).any (·.1) = false := by rfl)
    (hs1 : starEach [.Call (.Name x2 p2) [e] [] pos2] X.env = (false, eval (.Call (.Name x2 p2) [e] [] pos2) X.env) :: starEach [] X.env := by rfl) (hpl1 : (backTo pos1 (starEach [] X.env)).any (·.1) = false := by rfl) :
    PeF X U (.Call (.Name x1 p1) [.Call (.Name x2 p2) [e] [] pos2] [] pos1) (dCall (f1 bSortSet) [F]) := by
  obtain ⟨te, q1, q2⟩ := ha
  refine ⟨_, pe_callB (cr_sortX hc) hg1 hm1 hv1 (pa_cons (pe_callTy (cr_setX hc) hg2 hm2 hv2 (pa_cons q1 pa_nil hs2) hn2 hd2 hs2 hpl2) pa_nil hs1) hn1 hd1 hs1 hpl1, fun Y S H σ ρ Q g rs h => ?_⟩
  have h0 : Pst (kwX X U) U Y H (PD (kwX X U) Q) ((F ρ S).bind fun d S1 => bSortSet d S1) := by
    have h' := h
    unfold dCall evalAll evalAll at h'
    revert h'
    cases F ρ S with
    | ok d S1 => exact id
    | ex c S1 => exact id
    | un => exact id
  refine q2 Y S H σ ρ _ g rs ((Pst.bind h0).imp fun d S1 Y1 H1 e1 g1 h1 v rv => ?_)
  unfold bSortSet at h1
  split at h1
  · rename_i xs ex
    obtain ⟨hlt, h1⟩ := ite_ok h1
    have key : ((∃ a, v = .ref a ∧ SqL X.K H1 a ((xs.map sv).map V.str)) ∨ (∃ x, v = .str x ∧ xs.map sv = signsX x)) := by
      unfold textsOf at ex
      split at ex
      · rename_i s es
        cases ex
        have := str_read rv es
        subst this
        exact .inr ⟨_, rfl, (signsX_sv s).symm⟩
      · rename_i ds es
        obtain ⟨p, vs, rfl, k1, k2⟩ := lst_read g1 rv es
        rw [strsOf_rep k2 ex] at k1
        exact .inl ⟨p, rfl, k1⟩
      · cases ex
    refine ⟨xs.map sv, ?_, ⟨(sortU xs).map sv, fun x hx => ?_, ?_⟩, fun p l hl hp => ⟨p, l, rfl, upd_same, fun p2 ss hpm nd hso hp2 => ?_⟩⟩
    · rcases key with ⟨a, rfl, k⟩ | ⟨x, rfl, k⟩
      · exact .inl ⟨a, rfl, k⟩
      · exact .inr ⟨x, rfl, k⟩
    · obtain ⟨y, hy, rfl⟩ := List.mem_map.mp hx
      exact List.mem_map.mpr ⟨y, sortU_mem.mpr hy, rfl⟩
    · rw [List.length_map]
      show _ < 4096
      omega
    · rw [sorted_sortU hl hpm nd hso]
      have g2 := g1.new (o := SetXO X.prog X.w p l) hp
      exact (h1.mono (Ext.new hp)).fresh g2 hp2 (Rep.newL g2 hp2 (repL_strs _))
  · exact h1.elim
end
end WF

set_option linter.all false
set_option maxRecDepth 100000
/-! # the denotations of the defs of k20 (printed by gen.py) -/
namespace WF
def P_Reader_truth : Nat → FF
  | 0 => fUn
  | n + 1 => runDef 4
    (sSeq (sIf (tVal (dBin gEq (dBin gIdx (dVar 1) (dC (.int 0))) (dC (.str [110, 111, 116]))))
    (sRet (dNot (dMeth [82, 101, 97, 100, 101, 114] [116, 114, 117, 116, 104] (P_Reader_truth n) (dVar 0) [(dBin gIdx (dVar 1) (dC (.int 1))), (dVar 2)])))
    sNil)
    (sSeq (sIf (tVal (dBin gEq (dBin gIdx (dVar 1) (dC (.int 0))) (dC (.str [97, 110, 100]))))
    (sRet (dAnd (dMeth [82, 101, 97, 100, 101, 114] [116, 114, 117, 116, 104] (P_Reader_truth n) (dVar 0) [(dBin gIdx (dVar 1) (dC (.int 1))), (dVar 2)]) (dMeth [82, 101, 97, 100, 101, 114] [116, 114, 117, 116, 104] (P_Reader_truth n) (dVar 0) [(dBin gIdx (dVar 1) (dC (.int 2))), (dVar 2)])))
    sNil)
    (sSeq (sIf (tVal (dBin gEq (dBin gIdx (dVar 1) (dC (.int 0))) (dC (.str [111, 114]))))
    (sRet (dOr (dMeth [82, 101, 97, 100, 101, 114] [116, 114, 117, 116, 104] (P_Reader_truth n) (dVar 0) [(dBin gIdx (dVar 1) (dC (.int 1))), (dVar 2)]) (dMeth [82, 101, 97, 100, 101, 114] [116, 114, 117, 116, 104] (P_Reader_truth n) (dVar 0) [(dBin gIdx (dVar 1) (dC (.int 2))), (dVar 2)])))
    sNil)
    (sSeq (sAsg (dBin gIdx (dVar 2) (dIndex (dUn (gFld [82, 101, 97, 100, 101, 114] [115, 105, 109, 112, 108, 101]) (dVar 0)) (dVar 1))) (gName 3))
    (sRet (dIf (tVal (dBin gEq (dBin gIdx (dVar 1) (dC (.int 0))) (dC (.str [111, 102, 116, 101, 110])))) (dBin gEq (dVar 3) (dCall (f1 bStrI) [(dBin gIdx (dVar 1) (dC (.int 2)))])) (dBin gEq (dVar 3) (dC (.str [33])))))))))
@[irreducible] def P_Reader_answers : FF := runDef 3
    (sSeq (sIf (tVal (dBin gKNotIn (dVar 1) (dUn (gFld [82, 101, 97, 100, 101, 114] [116, 111, 108, 100]) (dVar 0))))
    (sAsg (dCall (f1 bTuple) [(dComp (iVal (dUn (gFld [82, 101, 97, 100, 101, 114] [113, 117, 101, 115, 116, 105, 111, 110, 115]) (dVar 0))) (gName 2) [2] tYes (dMeth [82, 101, 97, 100, 101, 114] [116, 114, 117, 116, 104] (P_Reader_truth fuel) (dVar 0) [(dVar 2), (dVar 1)]))]) (gSubK (dUn (gFld [82, 101, 97, 100, 101, 114] [116, 111, 108, 100]) (dVar 0)) (dVar 1)))
    sNil)
    (sRet (dBin gKIdx (dUn (gFld [82, 101, 97, 100, 101, 114] [116, 111, 108, 100]) (dVar 0)) (dVar 1))))
@[irreducible] def M_2 : FF := runLam 1 (dAnd (dBin gIdx (dVar 0) (dC (.int 0))) (dNot (dBin gIdx (dVar 0) (dC (.int 1)))))
@[irreducible] def M_3 : FF := runLam 1 (dBin gIdx (dVar 0) (dC (.int 0)))
@[irreducible] def M_0 (kl : Nat) (Fl : FF) : FF := runLam 3 (dCallV kl Fl (dVar 2) [(dMeth [82, 101, 97, 100, 101, 114] [97, 110, 115, 119, 101, 114, 115] P_Reader_answers (dVar 0) [(dVar 1)])])
@[irreducible] def P_is_between : FF := runDef 3
    (sRet (dAnd (dUn (bIsi .int) (dVar 0)) (dAnd (dNot (dUn (bIsi .bool) (dVar 0))) (dChain gLe gLe (dVar 1) (dVar 0) (dVar 2)))))
@[irreducible] def P_are_words : FF := runDef 4
    (sRet (dAnd (dUn (bIsi .str) (dVar 0)) (dAnd (dChain gLe gLe (dVar 1) (dCall (f1 bLen) [(dVar 0)]) (dVar 2)) (dCall (f1 bAll) [(dComp (iVal (dVar 0)) (gName 3) [3] tYes (dBin gIn (dVar 3) (dC (.str [97, 98, 99, 100]))))]))))
@[irreducible] def P_is_simple : FF := runDef 4
    (sSeq (sPar [1, 2] [(dBin gIdx (dVar 0) (dC (.int 0))), (dSlice (dVar 0) (dPart (dC (.int 1))) dNoPart)])
    (sSeq (sIf (tVal (dBin gIn (dVar 1) (dTup [(dC (.str [119, 111, 114, 100])), (dC (.str [98, 101, 103, 105, 110])), (dC (.str [101, 110, 100]))])))
    (sRet (dAnd (dBin gEq (dCall (f1 bLen) [(dVar 2)]) (dC (.int 1))) (dCall P_are_words [(dBin gIdx (dVar 2) (dC (.int 0))), (dC (.int 1)), (dC (.int 1))])))
    sNil)
    (sSeq (sIf (tVal (dBin gEq (dVar 1) (dC (.str [114, 111, 119]))))
    (sRet (dAnd (dBin gEq (dCall (f1 bLen) [(dVar 2)]) (dC (.int 1))) (dCall P_are_words [(dBin gIdx (dVar 2) (dC (.int 0))), (dC (.int 2)), (dC (.int 3))])))
    sNil)
    (sSeq (sIf (tVal (dBin gIn (dVar 1) (dTup [(dC (.str [110, 101, 97, 114])), (dC (.str [98, 101, 102, 111, 114, 101]))])))
    (sRet (dAnd (dBin gEq (dCall (f1 bLen) [(dVar 2)]) (dC (.int 3))) (dAnd (dCall (f1 bAll) [(dComp (iVal (dSlice (dVar 2) dNoPart (dPart (dC (.int 2))))) (gName 3) [3] tYes (dCall P_are_words [(dVar 3), (dC (.int 1)), (dC (.int 1))]))]) (dCall P_is_between [(dBin gIdx (dVar 2) (dC (.int 2))), (dC (.int 0)), (dC (.int 2))]))))
    sNil)
    (sRet (dAnd (dBin gEq (dVar 1) (dC (.str [111, 102, 116, 101, 110]))) (dAnd (dBin gEq (dCall (f1 bLen) [(dVar 2)]) (dC (.int 2))) (dAnd (dCall P_are_words [(dBin gIdx (dVar 2) (dC (.int 0))), (dC (.int 1)), (dC (.int 1))]) (dCall P_is_between [(dBin gIdx (dVar 2) (dC (.int 1))), (dC (.int 2)), (dC (.int 3))])))))))))
def P_is_at_most : Nat → FF
  | 0 => fUn
  | n + 1 => runDef 3
    (sSeq (sIf (tOr (tVal (dBin gLt (dVar 1) (dC (.int 1)))) (tOr (tNot (tVal (dUn (bIsi .tuple) (dVar 0)))) (tOr (tVal (dBin gLt (dCall (f1 bLen) [(dVar 0)]) (dC (.int 2)))) (tNot (tVal (dUn (bIsi .str) (dBin gIdx (dVar 0) (dC (.int 0)))))))))
    (sRet (dC (.bl false)))
    sNil)
    (sSeq (sIf (tVal (dBin gEq (dBin gIdx (dVar 0) (dC (.int 0))) (dC (.str [110, 111, 116]))))
    (sRet (dAnd (dBin gEq (dCall (f1 bLen) [(dVar 0)]) (dC (.int 2))) (dCall (P_is_at_most n) [(dBin gIdx (dVar 0) (dC (.int 1))), (dBin gSub (dVar 1) (dC (.int 1)))])))
    sNil)
    (sSeq (sIf (tVal (dBin gIn (dBin gIdx (dVar 0) (dC (.int 0))) (dTup [(dC (.str [97, 110, 100])), (dC (.str [111, 114]))])))
    (sRet (dAnd (dBin gEq (dCall (f1 bLen) [(dVar 0)]) (dC (.int 3))) (dCall (f1 bAll) [(dComp (iVal (dSlice (dVar 0) (dPart (dC (.int 1))) dNoPart)) (gName 2) [2] tYes (dCall (P_is_at_most n) [(dVar 2), (dBin gSub (dVar 1) (dC (.int 1)))]))])))
    sNil)
    (sRet (dCall P_is_simple [(dVar 0)])))))
@[irreducible] def P_is_question : FF := runDef 1
    (sRet (dCall (P_is_at_most fuel) [(dVar 0), (dC (.int 3))]))
@[irreducible] def P_check_question : FF := runDef 1
    (sIf (tNot (tVal (dCall P_is_question [(dVar 0)])))
    (sRaise 0)
    sNil)
def P_Reader_collect : Nat → FF
  | 0 => fUn
  | n + 1 => runDef 3
    (sIf (tVal (dBin gIn (dBin gIdx (dVar 1) (dC (.int 0))) (dTup [(dC (.str [110, 111, 116])), (dC (.str [97, 110, 100])), (dC (.str [111, 114]))])))
    (sFor (iVal (dSlice (dVar 1) (dPart (dC (.int 1))) dNoPart)) (gName 2)
    (sExpr (dMeth [82, 101, 97, 100, 101, 114] [99, 111, 108, 108, 101, 99, 116] (P_Reader_collect n) (dVar 0) [(dVar 2)])))
    (sIf (tVal (dBin gNotIn (dVar 1) (dUn (gFld [82, 101, 97, 100, 101, 114] [115, 105, 109, 112, 108, 101]) (dVar 0))))
    (sExpr (dApp (dUn (gFld [82, 101, 97, 100, 101, 114] [115, 105, 109, 112, 108, 101]) (dVar 0)) (dVar 1)))
    sNil))
@[irreducible] def P_Reader_init : FF := runDef 3
    (sSeq (sFldD [82, 101, 97, 100, 101, 114] [113, 117, 101, 115, 116, 105, 111, 110, 115] (dVar 0) (dVar 1))
    (sSeq (sFldD [82, 101, 97, 100, 101, 114] [115, 105, 109, 112, 108, 101] (dVar 0) (dNew []))
    (sSeq (sFor (iVal (dVar 1)) (gName 2)
    (sExpr (dMeth [82, 101, 97, 100, 101, 114] [99, 111, 108, 108, 101, 99, 116] (P_Reader_collect fuel) (dVar 0) [(dVar 2)])))
    (sSeq (sFldD [82, 101, 97, 100, 101, 114] [107, 110, 111, 119, 110] (dVar 0) dDict0)
    (sFldD [82, 101, 97, 100, 101, 114] [116, 111, 108, 100] (dVar 0) dDict0)))))
@[irreducible] def P_Reader_start : FF := runDef 2
    (sRet (dCall (f1 bTuple) [(dComp (iVal (dUn (gFld [82, 101, 97, 100, 101, 114] [115, 105, 109, 112, 108, 101]) (dVar 0))) (gName 1) [1] tYes (dIf (tVal (dBin gEq (dBin gIdx (dVar 1) (dC (.int 0))) (dC (.str [111, 102, 116, 101, 110])))) (dC (.str [48])) (dC (.str []))))]))
@[irreducible] def P_window : FF := runDef 8
    (sSeq (sAsg (dBin gIdx (dVar 0) (dC (.int 0))) (gName 3))
    (sSeq (sIf (tVal (dBin gEq (dVar 3) (dC (.str [114, 111, 119]))))
    (sRet (dIf (tVal (dBin gEq (dBin gAdd (dVar 1) (dVar 2)) (dBin gIdx (dVar 0) (dC (.int 1))))) (dC (.str [33])) (dSlice (dBin gAdd (dVar 1) (dVar 2)) (dPart (dBin gSub (dC (.int 1)) (dCall (f1 bLen) [(dBin gIdx (dVar 0) (dC (.int 1)))]))) dNoPart)))
    sNil)
    (sSeq (sAsg (dSlice (dVar 0) (dPart (dC (.int 1))) dNoPart) (gTup [(gName 5), (gName 6), (gName 7)]))
    (sSeq (sAsg (dOr (dAnd (dBin gEq (dVar 2) (dVar 6)) (dBin gIn (dVar 5) (dVar 1))) (dAnd (dBin gEq (dVar 3) (dC (.str [110, 101, 97, 114]))) (dAnd (dBin gEq (dVar 2) (dVar 5)) (dBin gIn (dVar 6) (dVar 1))))) (gName 4))
    (sRet (dIf (tVal (dVar 4)) (dC (.str [33])) (dSlice (dBin gAdd (dVar 1) (dVar 2)) (dPart (dBin gSub (dUn gNeg (dC (.int 1))) (dVar 7))) dNoPart)))))))
@[irreducible] def P_stepped : FF := runDef 5
    (sSeq (sPar [3, 4] [(dBin gIdx (dVar 0) (dC (.int 0))), (dBin gIdx (dVar 0) (dC (.int 1)))])
    (sSeq (sIf (tVal (dBin gEq (dVar 3) (dC (.str [101, 110, 100]))))
    (sRet (dIf (tVal (dBin gEq (dVar 2) (dVar 4))) (dC (.str [33])) (dC (.str []))))
    sNil)
    (sSeq (sIf (tVal (dBin gEq (dVar 1) (dC (.str [33]))))
    (sRet (dVar 1))
    sNil)
    (sSeq (sIf (tVal (dBin gEq (dVar 3) (dC (.str [119, 111, 114, 100]))))
    (sRet (dIf (tVal (dBin gEq (dVar 2) (dVar 4))) (dC (.str [33])) (dC (.str []))))
    sNil)
    (sSeq (sIf (tVal (dBin gEq (dVar 3) (dC (.str [98, 101, 103, 105, 110]))))
    (sRet (dIf (tAnd (tVal (dBin gEq (dVar 1) (dC (.str [])))) (tVal (dBin gEq (dVar 2) (dVar 4)))) (dC (.str [33])) (dC (.str [45]))))
    sNil)
    (sSeq (sIf (tVal (dBin gEq (dVar 3) (dC (.str [111, 102, 116, 101, 110]))))
    (sRet (dCall (f1 bStrI) [(dCall (f2 bMin2) [(dBin gIdx (dVar 0) (dC (.int 2))), (dBin gAdd (dCall (f1 bInt) [(dVar 1)]) (dCall (f1 bInt) [(dBin gEq (dVar 2) (dVar 4))]))])]))
    sNil)
    (sRet (dCall P_window [(dVar 0), (dVar 1), (dVar 2)]))))))))
@[irreducible] def P_Reader_step : FF := runDef 6
    (sSeq (sAsg (dTup [(dVar 1), (dVar 2)]) (gName 3))
    (sSeq (sIf (tVal (dBin gKNotIn (dVar 3) (dUn (gFld [82, 101, 97, 100, 101, 114] [107, 110, 111, 119, 110]) (dVar 0))))
    (sAsg (dCall (f1 bTuple) [(dComp (iZip (dUn (gFld [82, 101, 97, 100, 101, 114] [115, 105, 109, 112, 108, 101]) (dVar 0)) (dVar 1)) (gTup [(gName 4), (gName 5)]) [4, 5] tYes (dCall P_stepped [(dVar 4), (dVar 5), (dVar 2)]))]) (gSubK (dUn (gFld [82, 101, 97, 100, 101, 114] [107, 110, 111, 119, 110]) (dVar 0)) (dVar 3)))
    sNil)
    (sRet (dBin gKIdx (dUn (gFld [82, 101, 97, 100, 101, 114] [107, 110, 111, 119, 110]) (dVar 0)) (dVar 3)))))
@[irreducible] def P_check_size : FF := runDef 2
    (sIf (tNot (tVal (dCall P_is_between [(dVar 0), (dC (.int 0)), (dVar 1)])))
    (sRaise 1)
    sNil)
@[irreducible] def P_count_found : FF := runDef 10
    (sSeq (sExpr (dCall P_check_question [(dVar 0)]))
    (sSeq (sExpr (dCall P_check_size [(dVar 1), (dC (.int 30))]))
    (sSeq (sAsg (dMake [82, 101, 97, 100, 101, 114] P_Reader_init [(dLst [(dVar 0)])]) (gName 2))
    (sSeq (sAsg (dDict1 (dMeth [82, 101, 97, 100, 101, 114] [115, 116, 97, 114, 116] P_Reader_start (dVar 2) []) (dC (.int 1))) (gName 3))
    (sSeq (sFor (iRange1 (dVar 1)) (gName 4)
    (sSeq (sAsg dDict0 (gName 5))
    (sSeq (sLock 3 (sFor (iFrz true 3) (gTup [(gName 6), (gName 7)])
    (sFor (iVal (dC (.str [97, 98, 99, 100]))) (gName 8)
    (sSeq (sAsg (dMeth [82, 101, 97, 100, 101, 114] [115, 116, 101, 112] P_Reader_step (dVar 2) [(dVar 6), (dVar 8)]) (gName 9))
    (sAsg (dBin gAdd (dGetOr (dVar 5) (dVar 9) (dC (.int 0))) (dVar 7)) (gSubK (dVar 5) (dVar 9)))))))
    (sAsg (dVar 5) (gName 3)))))
    (sRet (dCall (f1 bSum) [(dLock 3 (dComp (iFrz true 3) (gTup [(gName 6), (gName 7)]) [6, 7] (tVal (dBin gIdx (dMeth [82, 101, 97, 100, 101, 114] [97, 110, 115, 119, 101, 114, 115] P_Reader_answers (dVar 2) [(dVar 6)]) (dC (.int 0)))) (dVar 7)))])))))))
@[irreducible] def P_found_sets : FF := runDef 10
    (sSeq (sAsg (dMake [82, 101, 97, 100, 101, 114] P_Reader_init [(dLst [(dVar 0)])]) (gName 1))
    (sSeq (sAsg (dTup [(dMeth [82, 101, 97, 100, 101, 114] [115, 116, 97, 114, 116] P_Reader_start (dVar 1) []), (dC (.str []))]) (gName 2))
    (sSeq (sPar [3, 4] [(dDict1 (dVar 2) (dC (.str []))), (dLst [(dVar 2)])])
    (sSeq (sWhile (fun _ _ => 16777216) (tVal (dBin gNe (dVar 4) (dLst [])))
    (sSeq (sAsg (dNew []) (gName 5))
    (sSeq (sFor (iVal (dVar 4)) (gTup [(gName 6), (gName 7)])
    (sFor (iVal (dC (.str [97, 98, 99, 100]))) (gName 8)
    (sSeq (sAsg (dTup [(dMeth [82, 101, 97, 100, 101, 114] [115, 116, 101, 112] P_Reader_step (dVar 1) [(dVar 6), (dVar 8)]), (dStrM bJoin (dC (.str [])) (dCall (f1 bSortSet) [(dBin gAdd (dVar 7) (dVar 8))]))]) (gName 9))
    (sIf (tVal (dBin gKNotIn (dVar 9) (dVar 3)))
    (sSeq (sAsg (dBin gAdd (dBin gKIdx (dVar 3) (dTup [(dVar 6), (dVar 7)])) (dVar 8)) (gSubK (dVar 3) (dVar 9)))
    (sExpr (dApp (dVar 5) (dVar 9))))
    sNil))))
    (sAsg (dVar 5) (gName 4)))))
    (sRet (dTup [(dVar 3), (dVar 1)]))))))
@[irreducible] def P_sets_found : FF := runDef 5
    (sSeq (sAsg (dCall P_found_sets [(dVar 0)]) (gTup [(gName 1), (gName 2)]))
    (sRet (dCall (f1 bSortSet) [(dLock 1 (dComp (iFrz false 1) (gTup [(gName 3), (gName 4)]) [3, 4] (tVal (dBin gIdx (dMeth [82, 101, 97, 100, 101, 114] [97, 110, 115, 119, 101, 114, 115] P_Reader_answers (dVar 2) [(dVar 3)]) (dC (.int 0)))) (dVar 4)))])))
@[irreducible] def P_needed_words : FF := runDef 4
    (sSeq (sExpr (dCall P_check_question [(dVar 0)]))
    (sSeq (sAsg (dCall P_sets_found [(dVar 0)]) (gName 1))
    (sRet (dStrM bJoin (dC (.str [])) (dComp (iVal (dC (.str [97, 98, 99, 100]))) (gName 2) [2] (tVal (dCall (f1 bAll) [(dComp (iVal (dVar 1)) (gName 3) [3] tYes (dBin gIn (dVar 2) (dVar 3)))])) (dVar 2))))))
@[irreducible] def P_useless_words : FF := runDef 4
    (sSeq (sExpr (dCall P_check_question [(dVar 0)]))
    (sSeq (sAsg (dCall P_sets_found [(dVar 0)]) (gName 1))
    (sRet (dStrM bJoin (dC (.str [])) (dComp (iVal (dC (.str [97, 98, 99, 100]))) (gName 2) [2] (tNot (tVal (dCall (f1 bAny) [(dComp (iVal (dVar 1)) (gName 3) [3] tYes (dBin gIn (dVar 2) (dVar 3)))]))) (dVar 2))))))
@[irreducible] def P_Reader_first_W (kl : Nat) (Fl : FF) : FF := runDef 10
    (sSeq (sAsg (dMeth [82, 101, 97, 100, 101, 114] [115, 116, 97, 114, 116] P_Reader_start (dVar 0) []) (gName 2))
    (sSeq (sPar [3, 4] [(dDict1 (dVar 2) (dC (.bl true))), (dLst [(dTup [(dVar 2), (dC (.str []))])])])
    (sSeq (sWhile (fun _ _ => 16777216) (tVal (dBin gNe (dVar 4) (dLst [])))
    (sSeq (sAsg (dNew []) (gName 5))
    (sSeq (sFor (iVal (dVar 4)) (gTup [(gName 6), (gName 7)])
    (sSeq (sIf (tVal (dCallW kl Fl (dVar 1) [(dVar 0), (dVar 6)]))
    (sRet (dVar 7))
    sNil)
    (sFor (iVal (dC (.str [97, 98, 99, 100]))) (gName 8)
    (sSeq (sAsg (dMeth [82, 101, 97, 100, 101, 114] [115, 116, 101, 112] P_Reader_step (dVar 0) [(dVar 6), (dVar 8)]) (gName 9))
    (sIf (tVal (dBin gKNotIn (dVar 9) (dVar 3)))
    (sSeq (sAsg (dC (.bl true)) (gSubK (dVar 3) (dVar 9)))
    (sExpr (dApp (dVar 5) (dTup [(dVar 9), (dBin gAdd (dVar 7) (dVar 8))]))))
    sNil)))))
    (sAsg (dVar 5) (gName 4)))))
    (sRet (dC .non)))))
@[irreducible] def P_first_with (kl : Nat) (Fl : FF) : FF := runDef 2
    (sRet (dMethW [82, 101, 97, 100, 101, 114] [102, 105, 114, 115, 116] (P_Reader_first_W 0 (M_0 kl Fl)) (dMake [82, 101, 97, 100, 101, 114] P_Reader_init [(dVar 0)]) 0 1))
@[irreducible] def P_is_within : FF := runDef 2
    (sSeq (sExpr (dCall P_check_question [(dVar 0)]))
    (sSeq (sExpr (dCall P_check_question [(dVar 1)]))
    (sRet (dUn gIsNon (dCall (P_first_with 2 M_2) [(dLst [(dVar 0), (dVar 1)]), (dLam 2)])))))
@[irreducible] def P_first_found : FF := runDef 1
    (sSeq (sExpr (dCall P_check_question [(dVar 0)]))
    (sRet (dCall (P_first_with 3 M_3) [(dLst [(dVar 0)]), (dLam 3)])))
@[irreducible] def L_town : FF := runDef 1
    (sRet (dCatNew (dLst [(dC (.int 0))]) (dCall (f1 bList) [(dVar 0)])))
@[irreducible] def L_draw : FF := runDef 6
    (sSeq (sAsg (dBin gAdd (dBin gIdx (dVar 1) (dC (.int 0))) (dC (.int 1))) (gSubL (dVar 1) (dC (.int 0))))
    (sSeq (sIf (tVal (dBin gEq (dVar 0) (dLst [])))
    (sRet (dBin gMod (dBin gFdiv (dBin gMul (dBin gMul (dBin gIdx (dVar 1) (dC (.int 0))) (dBin gIdx (dVar 1) (dC (.int 0)))) (dC (.int 7))) (dC (.int 3))) (dVar 2)))
    sNil)
    (sSeq (sAsg (dBin gMod (dBin gIdx (dVar 1) (dC (.int 0))) (dCall (f1 bLen) [(dVar 0)])) (gName 3))
    (sSeq (sAsg (dBin gIdx (dVar 1) (dBin gAdd (dC (.int 1)) (dVar 3))) (gName 4))
    (sSeq (sIf (tAnd (tVal (dBin gGe (dBin gIdx (dVar 0) (dVar 3)) (dBin gPow (dC (.int 10)) (dC (.int 18))))) (tVal (dBin gGt (dVar 4) (dC (.int 0)))))
    (sSeq (sAsg (dBin gFdiv (dVar 4) (dVar 2)) (gSubL (dVar 1) (dBin gAdd (dC (.int 1)) (dVar 3))))
    (sRet (dBin gMod (dVar 4) (dVar 2))))
    sNil)
    (sSeq (sAsg (dBin gMod (dBin gAdd (dBin gIdx (dVar 0) (dVar 3)) (dBin gMul (dC (.int 104729)) (dBin gIdx (dVar 1) (dC (.int 0))))) (dC (.int 4294967291))) (gName 5))
    (sSeq (sAsg (dBin gMod (dBin gPow (dVar 5) (dC (.int 5))) (dC (.int 4294967279))) (gName 5))
    (sRet (dBin gMod (dBin gFdiv (dBin gMod (dBin gAdd (dBin gMul (dBin gFdiv (dVar 5) (dC (.int 64))) (dC (.int 69621))) (dVar 5)) (dC (.int 4294967231))) (dC (.int 8))) (dVar 2))))))))))
@[irreducible] def L_pick : FF := runDef 3
    (sRet (dBin gIdx (dVar 2) (dCall L_draw [(dVar 0), (dVar 1), (dCall (f1 bLen) [(dVar 2)])])))
@[irreducible] def L_word : FF := runDef 2
    (sRet (dBin gIdx (dC (.str [97, 98, 99, 100])) (dCall L_draw [(dVar 0), (dVar 1), (dCall L_pick [(dVar 0), (dVar 1), (dLst [(dC (.int 2)), (dC (.int 3)), (dC (.int 4))])])])))
@[irreducible] def L_simple : FF := runDef 5
    (sSeq (sPar [2, 3, 4] [(dCall L_draw [(dVar 0), (dVar 1), (dC (.int 7))]), (dCall L_word [(dVar 0), (dVar 1)]), (dCall L_word [(dVar 0), (dVar 1)])])
    (sSeq (sIf (tVal (dBin gLt (dVar 2) (dC (.int 2))))
    (sRet (dTup [(dC (.str [114, 111, 119])), (dBin gAdd (dBin gAdd (dVar 3) (dVar 4)) (dCall L_pick [(dVar 0), (dVar 1), (dLst [(dC (.str [])), (dCall L_word [(dVar 0), (dVar 1)])])]))]))
    sNil)
    (sSeq (sIf (tVal (dBin gLt (dVar 2) (dC (.int 4))))
    (sRet (dTup [(dBin gIdx (dTup [(dC (.str [110, 101, 97, 114])), (dC (.str [98, 101, 102, 111, 114, 101]))]) (dBin gSub (dVar 2) (dC (.int 2)))), (dVar 3), (dVar 4), (dCall L_draw [(dVar 0), (dVar 1), (dC (.int 3))])]))
    sNil)
    (sSeq (sIf (tVal (dBin gEq (dVar 2) (dC (.int 4))))
    (sRet (dTup [(dC (.str [111, 102, 116, 101, 110])), (dVar 3), (dBin gAdd (dC (.int 2)) (dCall L_draw [(dVar 0), (dVar 1), (dC (.int 2))]))]))
    sNil)
    (sRet (dTup [(dBin gIdx (dTup [(dC (.str [98, 101, 103, 105, 110])), (dC (.str [101, 110, 100])), (dC (.str [119, 111, 114, 100]))]) (dCall L_draw [(dVar 0), (dVar 1), (dC (.int 3))])), (dVar 3)]))))))
def L_question : Nat → FF
  | 0 => fUn
  | n + 1 => runDef 5
    (sSeq (sAsg (dCall L_draw [(dVar 0), (dVar 1), (dC (.int 5))]) (gName 3))
    (sSeq (sIf (tOr (tVal (dBin gEq (dVar 2) (dC (.int 1)))) (tVal (dBin gEq (dVar 3) (dC (.int 0)))))
    (sRet (dCall L_simple [(dVar 0), (dVar 1)]))
    sNil)
    (sSeq (sIf (tVal (dBin gEq (dVar 3) (dC (.int 1))))
    (sRet (dTup [(dC (.str [110, 111, 116])), (dCall (L_question n) [(dVar 0), (dVar 1), (dBin gSub (dVar 2) (dC (.int 1)))])]))
    sNil)
    (sSeq (sAsg (dBin gIdx (dTup [(dC (.str [97, 110, 100])), (dC (.str [111, 114]))]) (dCall L_draw [(dVar 0), (dVar 1), (dC (.int 2))])) (gName 4))
    (sRet (dTup [(dVar 4), (dCall (L_question n) [(dVar 0), (dVar 1), (dBin gSub (dVar 2) (dC (.int 1)))]), (dCall (L_question n) [(dVar 0), (dVar 1), (dBin gSub (dVar 2) (dC (.int 1)))])]))))))
def L_finds : Nat → FF
  | 0 => fUn
  | n + 1 => runDef 11
    (sSeq (sAsg (dTup [(dBin gIdx (dVar 0) (dC (.int 0))), (dSlice (dVar 0) (dPart (dC (.int 1))) dNoPart)]) (gTup [(gName 5), (gName 6)]))
    (sSeq (sIf (tVal (dBin gIn (dVar 5) (dTup [(dC (.str [110, 111, 116])), (dC (.str [97, 110, 100])), (dC (.str [111, 114]))])))
    (sSeq (sAsg (dComp (iVal (dVar 6)) (gName 9) [9] tYes (dCall (L_finds n) [(dVar 9), (dVar 1)])) (gName 7))
    (sRet (dPick [[110, 111, 116], [97, 110, 100], [111, 114]] [(dNot (dBin gIdx (dVar 7) (dC (.int 0)))), (dBin gNotIn (dC (.bl false)) (dVar 7)), (dBin gIn (dC (.bl true)) (dVar 7))] (dVar 5))))
    sNil)
    (sSeq (sAsg (dComp (iRange1 (dCall (f1 bLen) [(dVar 1)])) (gName 4) [4] (tVal (dBin gEq (dBin gIdx (dVar 1) (dVar 4)) (dBin gIdx (dVar 6) (dC (.int 0))))) (dVar 4)) (gName 2))
    (sSeq (sIf (tVal (dBin gEq (dVar 5) (dC (.str [111, 102, 116, 101, 110]))))
    (sRet (dBin gGe (dCall (f1 bLen) [(dVar 2)]) (dBin gIdx (dVar 6) (dC (.int 1)))))
    sNil)
    (sSeq (sIf (tVal (dBin gEq (dVar 5) (dC (.str [114, 111, 119]))))
    (sRet (dBin gNe (dComp (iRange1 (dCall (f1 bLen) [(dVar 1)])) (gName 10) [10] (tVal (dBin gEq (dSlice (dVar 1) (dPart (dVar 10)) (dPart (dBin gAdd (dVar 10) (dCall (f1 bLen) [(dBin gIdx (dVar 6) (dC (.int 0)))])))) (dBin gIdx (dVar 6) (dC (.int 0))))) (dVar 10)) (dLst [])))
    sNil)
    (sSeq (sIf (tOr (tVal (dBin gEq (dVar 5) (dC (.str [98, 101, 103, 105, 110])))) (tVal (dBin gEq (dVar 5) (dC (.str [101, 110, 100])))))
    (sRet (dAnd (dBin gGt (dCall (f1 bLen) [(dVar 1)]) (dC (.int 0))) (dBin gEq (dBin gIdx (dVar 1) (dIf (tVal (dBin gEq (dVar 5) (dC (.str [98, 101, 103, 105, 110])))) (dC (.int 0)) (dBin gSub (dCall (f1 bLen) [(dVar 1)]) (dC (.int 1))))) (dBin gIdx (dVar 6) (dC (.int 0))))))
    sNil)
    (sSeq (sIf (tVal (dBin gEq (dVar 5) (dC (.str [119, 111, 114, 100]))))
    (sRet (dBin gNe (dVar 2) (dLst [])))
    sNil)
    (sSeq (sAsg (dComp (iRange1 (dCall (f1 bLen) [(dVar 1)])) (gName 4) [4] (tVal (dBin gEq (dBin gIdx (dVar 1) (dVar 4)) (dBin gIdx (dVar 6) (dC (.int 1))))) (dVar 4)) (gName 3))
    (sSeq (sFor (iVal (dVar 2)) (gName 4)
    (sSeq (sAsg (dBin gAdd (dBin gIdx (dVar 6) (dC (.int 2))) (dC (.int 1))) (gName 8))
    (sIf (tVal (dBin gNe (dComp (iVal (dVar 3)) (gName 10) [10] (tOr (tVal (dChain gLt gLe (dC (.int 0)) (dBin gSub (dVar 10) (dVar 4)) (dVar 8))) (tAnd (tVal (dBin gEq (dVar 5) (dC (.str [110, 101, 97, 114])))) (tVal (dChain gLt gLe (dC (.int 0)) (dBin gSub (dVar 4) (dVar 10)) (dVar 8))))) (dVar 10)) (dLst [])))
    (sRet (dC (.bl true)))
    sNil)))
    (sRet (dC (.bl false))))))))))))
@[irreducible] def L_texts : FF := runDef 7
    (sSeq (sPar [2, 3] [(dLst [(dC (.str []))]), (dLst [(dC (.str []))])])
    (sSeq (sFor (iRange1 (dVar 0)) (gName 1)
    (sSeq (sAsg (dLst []) (gName 4))
    (sSeq (sFor (iVal (dVar 3)) (gName 5)
    (sAsg (dBin gAdd (dVar 4) (dComp (iVal (dC (.str [97, 98, 99, 100]))) (gName 6) [6] tYes (dBin gAdd (dVar 5) (dVar 6)))) (gName 4)))
    (sSeq (sAsg (dVar 4) (gName 3))
    (sAsg (dBin gAdd (dVar 2) (dVar 3)) (gName 2))))))
    (sRet (dVar 2))))
@[irreducible] def L_law : FF := runDef 16
    (sSeq (sAsg (dCall L_town [(dVar 0)]) (gName 1))
    (sSeq (sAsg (dCall (L_question fuel) [(dVar 0), (dVar 1), (dC (.int 2))]) (gName 2))
    (sSeq (sAsg (dCall L_texts [(dC (.int 5))]) (gName 3))
    (sSeq (sAsg (dComp (iVal (dVar 3)) (gName 15) [15] (tVal (dCall (L_finds fuel) [(dVar 2), (dVar 15)])) (dVar 15)) (gName 4))
    (sSeq (sFor (iRange1 (dC (.int 6))) (gName 5)
    (sIf (tVal (dBin gNe (dCall P_count_found [(dVar 2), (dVar 5)]) (dCall (f1 bLen) [(dComp (iVal (dVar 4)) (gName 15) [15] (tVal (dBin gEq (dCall (f1 bLen) [(dVar 15)]) (dVar 5))) (dVar 15))])))
    (sRet (dC (.bl false)))
    sNil))
    (sSeq (sAsg (dCall L_draw [(dVar 0), (dVar 1), (dC (.int 31))]) (gName 5))
    (sSeq (sAsg (dC (.int 1)) (gName 6))
    (sSeq (sFor (iRange1 (dVar 5)) (gName 7)
    (sAsg (dBin gMul (dVar 6) (dC (.int 4))) (gName 6)))
    (sSeq (sIf (tVal (dBin gNe (dBin gAdd (dCall P_count_found [(dVar 2), (dVar 5)]) (dCall P_count_found [(dTup [(dC (.str [110, 111, 116])), (dVar 2)]), (dVar 5)])) (dVar 6)))
    (sRet (dC (.bl false)))
    sNil)
    (sSeq (sAsg (dCall (L_question fuel) [(dVar 0), (dVar 1), (dC (.int 2))]) (gName 8))
    (sSeq (sPar [10, 11] [(dCall P_count_found [(dTup [(dC (.str [97, 110, 100])), (dVar 2), (dVar 8)]), (dVar 5)]), (dCall P_count_found [(dTup [(dC (.str [111, 114])), (dVar 2), (dVar 8)]), (dVar 5)])])
    (sSeq (sIf (tVal (dBin gNe (dBin gAdd (dVar 10) (dVar 11)) (dBin gAdd (dCall P_count_found [(dVar 2), (dVar 5)]) (dCall P_count_found [(dVar 8), (dVar 5)]))))
    (sRet (dC (.bl false)))
    sNil)
    (sSeq (sIf (tAnd (tVal (dCall P_is_within [(dVar 2), (dVar 8)])) (tVal (dBin gGt (dCall P_count_found [(dVar 2), (dVar 5)]) (dCall P_count_found [(dVar 8), (dVar 5)]))))
    (sRet (dC (.bl false)))
    sNil)
    (sSeq (sPar [12, 13] [(dCall P_needed_words [(dVar 2)]), (dCall P_useless_words [(dVar 2)])])
    (sSeq (sFor (iVal (dC (.str [97, 98, 99, 100]))) (gName 9)
    (sSeq (sAsg (dTup [(dC (.str [97, 110, 100])), (dVar 2), (dTup [(dC (.str [110, 111, 116])), (dTup [(dC (.str [119, 111, 114, 100])), (dVar 9)])])]) (gName 14))
    (sSeq (sIf (tOr (tVal (dBin gNe (dBin gIn (dVar 9) (dVar 12)) (dUn gIsNon (dCall P_first_found [(dVar 14)])))) (tVal (dBin gNe (dCall (f1 bList) [(dVar 12)]) (dCall (f1 bSortSet) [(dVar 12)]))))
    (sRet (dC (.bl false)))
    sNil)
    (sSeq (sIf (tVal (dBin gNe (dBin gIn (dVar 9) (dVar 13)) (dUn gIsNon (dCall P_first_found [(dTup [(dC (.str [97, 110, 100])), (dVar 2), (dTup [(dC (.str [119, 111, 114, 100])), (dVar 9)])])]))))
    (sRet (dC (.bl false)))
    sNil)
    (sSeq (sIf (tAnd (tVal (dBin gIn (dVar 9) (dVar 12))) (tVal (dBin gNe (dComp (iVal (dVar 4)) (gName 15) [15] (tVal (dBin gNotIn (dVar 9) (dVar 15))) (dVar 15)) (dLst []))))
    (sRet (dC (.bl false)))
    sNil)
    (sIf (tAnd (tVal (dBin gIn (dVar 9) (dVar 13))) (tVal (dBin gNe (dComp (iVal (dVar 4)) (gName 15) [15] (tVal (dBin gIn (dVar 9) (dVar 15))) (dVar 15)) (dLst []))))
    (sRet (dC (.bl false)))
    sNil))))))
    (sRet (dAnd (dBin gEq (dCall (f1 bList) [(dVar 13)]) (dCall (f1 bSortSet) [(dVar 13)])) (dBin gEq (dUn gIsNon (dCall P_first_found [(dVar 2)])) (dBin gEq (dBin gAdd (dVar 12) (dVar 13)) (dC (.str [97, 98, 99, 100, 97, 98, 99, 100])))))))))))))))))))))
end WF

set_option Elab.async false
set_option linter.all false
set_option maxRecDepth 100000
set_option maxHeartbeats 4000000
/-! # the walk of k20 (printed by gen.py) -/
namespace WF
open PySem L2 PyProof.Rows
def top (i : Nat) : Stmt := PySem.Challenge.pw_wordfinds_k20_whole_counts.main.body.getD i (.Pass ⟨0, 0, 0, 0⟩)
abbrev sl_first_with : Stmt := top 26
abbrev sl_is_within : Stmt := top 27
abbrev sl_first_found : Stmt := top 28
def retE (s : Stmt) : Expr := match s with
  | .Return (some e) _ => e
  | _ => .Constant .none 0 ⟨0, 0, 0, 0⟩
def cmpE (e : Expr) : Expr := match e with
  | .Compare a _ _ _ => a
  | e => e
def argE (j : Nat) (e : Expr) : Expr := match e with
  | .Call _ as _ _ => as.getD j e
  | e => e
def lamI (st : Stmt) (q : PySem.Str) (fr : List PySem.Str) (e : Expr) : LamI := match e with
  | .Lambda p b sc _ => ⟨q, p, b, sc, fr⟩
  | e => ⟨q, defArgs st, e, defScope st, fr⟩
def lams : Nat → LamI
  | 0 => lamI sl_first_with "first_with.<locals>.<lambda>" ["is_wanted"] (argE 0 (retE ((defBody sl_first_with).getD 0 (.Pass ⟨0, 0, 0, 0⟩))))
  | 2 => lamI sl_is_within "is_within.<locals>.<lambda>" [] (argE 1 (cmpE (retE ((defBody sl_is_within).getD 2 (.Pass ⟨0, 0, 0, 0⟩)))))
  | 3 => lamI sl_first_found "first_found.<locals>.<lambda>" [] (argE 1 (retE ((defBody sl_first_found).getD 1 (.Pass ⟨0, 0, 0, 0⟩))))
  | _ => lamI (top 0) "" [] (.Constant .none 0 ⟨0, 0, 0, 0⟩)
theorem q_0 : (lams 0).qual = (("first_with" : PySem.Str) ++ ".<locals>.") ++ "<lambda>" := by decide +kernel
theorem q_2 : (lams 2).qual = (("is_within" : PySem.Str) ++ ".<locals>.") ++ "<lambda>" := by decide +kernel
theorem q_3 : (lams 3).qual = (("first_found" : PySem.Str) ++ ".<locals>.") ++ "<lambda>" := by decide +kernel
/-- what the top has written -/
structure Txt (w : World) (K : PySem.W.Frag) (mg : PySem.Str → Option Value) (base : Heap) (cl : Cl) : Prop where
  lam : ∀ k, cl.lam k = lams k
  n_all : mg "all" = none
  n_any : mg "any" = none
  n_bool : mg "bool" = none
  n_int : mg "int" = none
  n_isinstance : mg "isinstance" = none
  n_len : mg "len" = none
  n_list : mg "list" = none
  n_min : mg "min" = none
  n_range : mg "range" = none
  n_set : mg "set" = none
  n_sorted : mg "sorted" = none
  n_str : mg "str" = none
  n_sum : mg "sum" = none
  n_tuple : mg "tuple" = none
  n_zip : mg "zip" = none
  g_FOUND : ∃ t, mg "FOUND" = some (.str "!" t)
  g_WORDS : ∃ t, mg "WORDS" = some (.str "abcd" t)
  g_DEEP : ∃ t, mg "DEEP" = some (.int 3 t)
  x_InvalidQuestion : ExcC K mg "InvalidQuestion" (cl 0)
  x_InvalidNumber : ExcC K mg "InvalidNumber" (cl 1)
  fl_Reader_told : FlD K [82, 101, 97, 100, 101, 114] [116, 111, 108, 100]
  fl_Reader_questions : FlD K [82, 101, 97, 100, 101, 114] [113, 117, 101, 115, 116, 105, 111, 110, 115]
  fl_Reader_simple : FlD K [82, 101, 97, 100, 101, 114] [115, 105, 109, 112, 108, 101]
  fl_Reader_known : FlD K [82, 101, 97, 100, 101, 114] [107, 110, 111, 119, 110]
  f_is_between : ∃ f fd, Fun K "is_between" "is_between" (top 7) f fd ∧ mg "is_between" = some (.ref f) ∧ Binds K fd ["value", "low", "high"] []
  f_are_words : ∃ f fd, Fun K "are_words" "are_words" (top 8) f fd ∧ mg "are_words" = some (.ref f) ∧ Binds K fd ["value", "low", "high"] []
  f_is_simple : ∃ f fd, Fun K "is_simple" "is_simple" (top 9) f fd ∧ mg "is_simple" = some (.ref f) ∧ Binds K fd ["value"] []
  f_is_at_most : ∃ f fd, Fun K "is_at_most" "is_at_most" (top 10) f fd ∧ mg "is_at_most" = some (.ref f) ∧ Binds K fd ["value", "deep"] []
  f_is_question : ∃ f fd, Fun K "is_question" "is_question" (top 11) f fd ∧ mg "is_question" = some (.ref f) ∧ Binds K fd ["value"] []
  f_check_question : ∃ f fd, Fun K "check_question" "check_question" (top 12) f fd ∧ mg "check_question" = some (.ref f) ∧ Binds K fd ["value"] []
  f_Reader_init : ∃ C f fd, Fun K "__init__" "Reader.__init__" ((clsB (top 15)).getD 0 (.Pass ⟨0, 0, 0, 0⟩)) f fd ∧ Binds K fd ["self", "questions"] [] ∧ PySem.W.nsIn K mainGlobals (sv [82, 101, 97, 100, 101, 114]) = some (some (.ref C)) ∧ mg (sv [82, 101, 97, 100, 101, 114]) = some (.ref C) ∧ Mk K C f
  f_Reader_collect : ∃ C f fd, Fun K "collect" "Reader.collect" ((clsB (top 15)).getD 1 (.Pass ⟨0, 0, 0, 0⟩)) f fd ∧ Binds K fd ["self", "question"] [] ∧ PySem.W.nsIn K mainGlobals (sv [82, 101, 97, 100, 101, 114]) = some (some (.ref C)) ∧ Cls K C ∧ Meth K C (sv [99, 111, 108, 108, 101, 99, 116]) f
  f_Reader_start : ∃ C f fd, Fun K "start" "Reader.start" ((clsB (top 15)).getD 2 (.Pass ⟨0, 0, 0, 0⟩)) f fd ∧ Binds K fd ["self"] [] ∧ PySem.W.nsIn K mainGlobals (sv [82, 101, 97, 100, 101, 114]) = some (some (.ref C)) ∧ Cls K C ∧ Meth K C (sv [115, 116, 97, 114, 116]) f
  f_Reader_step : ∃ C f fd, Fun K "step" "Reader.step" ((clsB (top 15)).getD 3 (.Pass ⟨0, 0, 0, 0⟩)) f fd ∧ Binds K fd ["self", "state", "word"] [] ∧ PySem.W.nsIn K mainGlobals (sv [82, 101, 97, 100, 101, 114]) = some (some (.ref C)) ∧ Cls K C ∧ Meth K C (sv [115, 116, 101, 112]) f
  f_Reader_truth : ∃ C f fd, Fun K "truth" "Reader.truth" ((clsB (top 15)).getD 4 (.Pass ⟨0, 0, 0, 0⟩)) f fd ∧ Binds K fd ["self", "question", "state"] [] ∧ PySem.W.nsIn K mainGlobals (sv [82, 101, 97, 100, 101, 114]) = some (some (.ref C)) ∧ Cls K C ∧ Meth K C (sv [116, 114, 117, 116, 104]) f
  f_Reader_answers : ∃ C f fd, Fun K "answers" "Reader.answers" ((clsB (top 15)).getD 5 (.Pass ⟨0, 0, 0, 0⟩)) f fd ∧ Binds K fd ["self", "state"] [] ∧ PySem.W.nsIn K mainGlobals (sv [82, 101, 97, 100, 101, 114]) = some (some (.ref C)) ∧ Cls K C ∧ Meth K C (sv [97, 110, 115, 119, 101, 114, 115]) f
  f_Reader_first : ∃ C f fd, Fun K "first" "Reader.first" ((clsB (top 15)).getD 6 (.Pass ⟨0, 0, 0, 0⟩)) f fd ∧ Binds K fd ["self", "is_wanted"] [] ∧ PySem.W.nsIn K mainGlobals (sv [82, 101, 97, 100, 101, 114]) = some (some (.ref C)) ∧ Cls K C ∧ Meth K C (sv [102, 105, 114, 115, 116]) f
  f_window : ∃ f fd, Fun K "window" "window" (top 16) f fd ∧ mg "window" = some (.ref f) ∧ Binds K fd ["question", "part", "word"] []
  f_stepped : ∃ f fd, Fun K "stepped" "stepped" (top 17) f fd ∧ mg "stepped" = some (.ref f) ∧ Binds K fd ["question", "part", "word"] []
  f_check_size : ∃ f fd, Fun K "check_size" "check_size" (top 19) f fd ∧ mg "check_size" = some (.ref f) ∧ Binds K fd ["size", "most"] []
  f_count_found : ∃ f fd, Fun K "count_found" "count_found" (top 20) f fd ∧ mg "count_found" = some (.ref f) ∧ Binds K fd ["question", "size"] []
  f_found_sets : ∃ f fd, Fun K "found_sets" "found_sets" (top 21) f fd ∧ mg "found_sets" = some (.ref f) ∧ Binds K fd ["question"] []
  f_sets_found : ∃ f fd, Fun K "sets_found" "sets_found" (top 22) f fd ∧ mg "sets_found" = some (.ref f) ∧ Binds K fd ["question"] []
  f_needed_words : ∃ f fd, Fun K "needed_words" "needed_words" (top 23) f fd ∧ mg "needed_words" = some (.ref f) ∧ Binds K fd ["question"] []
  f_useless_words : ∃ f fd, Fun K "useless_words" "useless_words" (top 24) f fd ∧ mg "useless_words" = some (.ref f) ∧ Binds K fd ["question"] []
  f_first_with : ∃ f fd c, FunC K "first_with" "first_with" (top 26) f fd c ∧ mg "first_with" = some (.ref f) ∧ Binds K fd ["questions", "is_wanted"] [] ∧ TabD mg base cl c "first_with.<locals>.<lambda>"
  f_is_within : ∃ f fd c, FunC K "is_within" "is_within" (top 27) f fd c ∧ mg "is_within" = some (.ref f) ∧ Binds K fd ["one", "other"] [] ∧ TabD mg base cl c "is_within.<locals>.<lambda>"
  f_first_found : ∃ f fd c, FunC K "first_found" "first_found" (top 28) f fd c ∧ mg "first_found" = some (.ref f) ∧ Binds K fd ["question"] [] ∧ TabD mg base cl c "first_found.<locals>.<lambda>"
  f__law_town : ∃ f fd, Fun K "_law_town" "_law_town" (top 30) f fd ∧ mg "_law_town" = some (.ref f) ∧ Binds K fd ["_law_script"] []
  f__law_draw : ∃ f fd, Fun K "_law_draw" "_law_draw" (top 31) f fd ∧ mg "_law_draw" = some (.ref f) ∧ Binds K fd ["_law_script", "_law_town_here", "_law_limit"] []
  f__law_pick : ∃ f fd, Fun K "_law_pick" "_law_pick" (top 32) f fd ∧ mg "_law_pick" = some (.ref f) ∧ Binds K fd ["_law_script", "_law_town_here", "_law_choices"] []
  f__law_word : ∃ f fd, Fun K "_law_word" "_law_word" (top 33) f fd ∧ mg "_law_word" = some (.ref f) ∧ Binds K fd ["_law_script", "_law_town_here"] []
  f__law_simple : ∃ f fd, Fun K "_law_simple" "_law_simple" (top 34) f fd ∧ mg "_law_simple" = some (.ref f) ∧ Binds K fd ["_law_script", "_law_town_here"] []
  f__law_question : ∃ f fd, Fun K "_law_question" "_law_question" (top 35) f fd ∧ mg "_law_question" = some (.ref f) ∧ Binds K fd ["_law_script", "_law_town_here", "_law_deep"] []
  f__law_finds : ∃ f fd, Fun K "_law_finds" "_law_finds" (top 36) f fd ∧ mg "_law_finds" = some (.ref f) ∧ Binds K fd ["_law_question_here", "_law_text"] []
  f__law_texts : ∃ f fd, Fun K "_law_texts" "_law_texts" (top 37) f fd ∧ mg "_law_texts" = some (.ref f) ∧ Binds K fd ["_law_most"] []
  f_law : ∃ f fd, Fun K "law" "law" (top 38) f fd ∧ mg "law" = some (.ref f) ∧ Binds K fd ["_law_script"] []
section
variable {P : Program} {w : World} {K : PySem.W.Frag} {mg : PySem.Str → Option Value} {base : Heap} {cl : Cl}
abbrev s_Reader_truth : Stmt := (clsB (top 15)).getD 4 (.Pass ⟨0, 0, 0, 0⟩)
abbrev N_Reader_truth : List PySem.Str := ["self", "question", "state", "part"]
theorem sc_Reader_truth : FnScope N_Reader_truth ["self", "question", "state"] (defScope s_Reader_truth) := ⟨rfl, rfl, rfl, by decide +kernel, rfl, by decide +kernel, by decide +kernel⟩
theorem okn_Reader_truth (T : Txt w K mg base cl) : ∀ n : Nat, MtD P w K mg base cl [82, 101, 97, 100, 101, 114] [116, 114, 117, 116, 104] 3 (0 + n) (P_Reader_truth n)
  | 0 => by
    obtain ⟨C, f, fd, Fn, hb, h1, h2, h3⟩ := T.f_Reader_truth
    unfold P_Reader_truth
    exact (mtd_un hb h1 h2 h3).mono (Nat.zero_le _)
  | n + 1 => by
    have ih := okn_Reader_truth T n
    obtain ⟨C, f, fd, Fn, hb, h1, h2, h3⟩ := T.f_Reader_truth
    unfold P_Reader_truth
    exact mtd_mk (N := N_Reader_truth) (ps := ["self", "question", "state"]) (k := 0 + n) Fn sc_Reader_truth hb h1 h2 h3 fun cdv A outer s H E c0 =>
    (pssf_cons (psf_if (pt_cmp (o_eq c0.hu) (pf_ix (pf_var 1) pf_int) (pf_str (by decide +kernel)))
    (pssf_one (psf_ret (pf_not (pf_meth c0 ih (by omega) (pf_var 0) (paf_cons (pf_ix (pf_var 1) pf_int) (paf_cons (pf_var 2) paf_nil))))))
    pssf_nil)
    (pssf_cons (psf_if (pt_cmp (o_eq c0.hu) (pf_ix (pf_var 1) pf_int) (pf_str (by decide +kernel)))
    (pssf_one (psf_ret (pf_and (pf_meth c0 ih (by omega) (pf_var 0) (paf_cons (pf_ix (pf_var 1) pf_int) (paf_cons (pf_var 2) paf_nil))) (pf_one (pf_meth c0 ih (by omega) (pf_var 0) (paf_cons (pf_ix (pf_var 1) pf_int) (paf_cons (pf_var 2) paf_nil)))))))
    pssf_nil)
    (pssf_cons (psf_if (pt_cmp (o_eq c0.hu) (pf_ix (pf_var 1) pf_int) (pf_str (by decide +kernel)))
    (pssf_one (psf_ret (pf_or (pf_meth c0 ih (by omega) (pf_var 0) (paf_cons (pf_ix (pf_var 1) pf_int) (paf_cons (pf_var 2) paf_nil))) (pf_one (pf_meth c0 ih (by omega) (pf_var 0) (paf_cons (pf_ix (pf_var 1) pf_int) (paf_cons (pf_var 2) paf_nil)))))))
    pssf_nil)
    (pssf_cons (psf_set 3 c0.nd (pf_ix (pf_var 2) (pf_index c0.hu5 (pf_fld T.fl_Reader_simple (pf_var 0)) (pf_var 1))))
    (pssf_one (psf_ret (pf_if (pt_cmp (o_eq c0.hu) (pf_ix (pf_var 1) pf_int) (pf_str (by decide +kernel))) (pf_cmp (o_eq c0.hu) (pf_var 3) (pf_callTy c_strI T.n_str (by decide +kernel) (paf_cons (pf_ix (pf_var 1) pf_int) paf_nil))) (pf_cmp (o_eq c0.hu) (pf_var 3) (pf_globStr T.g_FOUND.choose_spec (by decide +kernel))))))))))
theorem okq_Reader_truth (T : Txt w K mg base cl) : MtD P w K mg base cl [82, 101, 97, 100, 101, 114] [116, 114, 117, 116, 104] 3 5 (P_Reader_truth fuel) := by
  rw [fuel_eq]
  exact okn_Reader_truth T 5
abbrev s_Reader_answers : Stmt := (clsB (top 15)).getD 5 (.Pass ⟨0, 0, 0, 0⟩)
abbrev N_Reader_answers : List PySem.Str := ["self", "state", "question"]
theorem sc_Reader_answers : FnScope N_Reader_answers ["self", "state"] (defScope s_Reader_answers) := ⟨rfl, rfl, rfl, by decide +kernel, rfl, by decide +kernel, by decide +kernel⟩
theorem ok_Reader_answers (T : Txt w K mg base cl) : MtD P w K mg base cl [82, 101, 97, 100, 101, 114] [97, 110, 115, 119, 101, 114, 115] 2 6 P_Reader_answers := by
    obtain ⟨C, f, fd, Fn, hb, h1, h2, h3⟩ := T.f_Reader_answers
    unfold P_Reader_answers
    exact mtd_mk (N := N_Reader_answers) (ps := ["self", "state"]) (k := 5) Fn sc_Reader_answers hb h1 h2 h3 fun cdv A outer s H E c0 =>
    (pssf_cons (psf_if (pt_cmp (o_knotin c0.hu) (pf_var 1) (pf_fld T.fl_Reader_told (pf_var 0)))
    (pssf_one (psf_asg (pf_callTy c_tuple T.n_tuple (by decide +kernel) (paf_cons (pf_comp c0.calm c0.nd (pi_val (pf_fld T.fl_Reader_questions (pf_var 0))) (blkOk_by (own := [("question", 2)]) (N := N_Reader_answers) (sc := defScope s_Reader_answers) (by decide +kernel)) (fun _ _ _ _ _ => (pg_nm 2 c0.blk.nd)) (fun _ _ _ _ _ => pts_no) (fun _ _ _ _ _ => (pf_meth c0.blk (okq_Reader_truth T) (by omega) (pf_var 0) (paf_cons (pf_var 2) (paf_cons (pf_var 1) paf_nil))))) paf_nil)) (pg_subK c0.hu (pf_fld T.fl_Reader_told (pf_var 0)) (pf_var 1))))
    pssf_nil)
    (pssf_one (psf_ret (pf_kix c0.hu (pf_fld T.fl_Reader_told (pf_var 0)) (pf_var 1)))))
theorem lm_2 (T : Txt w K mg base cl) : LmD P w K mg base cl 2 1 1 M_2 := by
    unfold M_2
    exact lmd_mkL (N := ["pair"]) (ps := ["pair"]) (j := 0) (T.lam 2) (NdefX.nscope_by (by decide +kernel)) (fun q cells pm cv ctv us hus => match us, hus with | [_], _ => rfl) fun A outer s H a c cells c0 =>
    (pf_and (pf_ix (pf_var 0) pf_int) (pf_one (pf_not (pf_ix (pf_var 0) pf_int))))
theorem lm_3 (T : Txt w K mg base cl) : LmD P w K mg base cl 3 1 1 M_3 := by
    unfold M_3
    exact lmd_mkL (N := ["pair"]) (ps := ["pair"]) (j := 0) (T.lam 3) (NdefX.nscope_by (by decide +kernel)) (fun q cells pm cv ctv us hus => match us, hus with | [_], _ => rfl) fun A outer s H a c cells c0 =>
    (pf_ix (pf_var 0) pf_int)
theorem lm_0 (T : Txt w K mg base cl) {kl jl : Nat} {Fl : FF} {Ll : LamI} (hlL : cl.lam kl = Ll) (hlf : Ll.fr = []) (hl : LmD P w K mg base cl kl 1 jl Fl) (hjl : jl ≤ 1) : LmD P w K mg base cl 0 2 7 (M_0 kl Fl) := by
    unfold M_0
    exact lmd_mkL (N := ["reader", "state", "is_wanted"]) (ps := ["reader", "state"]) (j := 6) (T.lam 0) (NdefX.nscope_by (by decide +kernel)) (fun q cells pm cv ctv us hus => match us, hus with | [_, _], _ => rfl) fun A outer s H a c cells c0 =>
    (pf_callVL c0 hlL hl (by omega) 2 (paf_cons (pf_meth c0 (ok_Reader_answers T) (by omega) (pf_var 0) (paf_cons (pf_var 1) paf_nil)) paf_nil) (hfr := hlf))
abbrev s_is_between : Stmt := top 7
abbrev N_is_between : List PySem.Str := ["value", "low", "high"]
theorem sc_is_between : FnScope N_is_between ["value", "low", "high"] (defScope s_is_between) := ⟨rfl, rfl, rfl, by decide +kernel, rfl, by decide +kernel, by decide +kernel⟩
theorem ok_is_between (T : Txt w K mg base cl) : FnD P w K mg base cl "is_between" 3 1 P_is_between := by
    obtain ⟨f, fd, Fn, hm, hb⟩ := T.f_is_between
    unfold P_is_between
    exact fnd_mk (N := N_is_between) (ps := ["value", "low", "high"]) (k := 0) Fn sc_is_between hb hm fun cdv A outer s H E c0 =>
    (pssf_one (psf_ret (pf_and (pf_isi .int (pf_var 0) T.n_isinstance T.n_int (by decide +kernel)) (pf_and (pf_not (pf_isi .bool (pf_var 0) T.n_isinstance T.n_bool (by decide +kernel))) (pf_one (pf_chain o_le o_le (pf_var 1) (pf_var 0) (pf_var 2)))))))
abbrev s_are_words : Stmt := top 8
abbrev N_are_words : List PySem.Str := ["value", "low", "high", "word"]
theorem sc_are_words : FnScope N_are_words ["value", "low", "high"] (defScope s_are_words) := ⟨rfl, rfl, rfl, by decide +kernel, rfl, by decide +kernel, by decide +kernel⟩
theorem ok_are_words (T : Txt w K mg base cl) : FnD P w K mg base cl "are_words" 3 1 P_are_words := by
    obtain ⟨f, fd, Fn, hm, hb⟩ := T.f_are_words
    unfold P_are_words
    exact fnd_mk (N := N_are_words) (ps := ["value", "low", "high"]) (k := 0) Fn sc_are_words hb hm fun cdv A outer s H E c0 =>
    (pssf_one (psf_ret (pf_and (pf_isi .str (pf_var 0) T.n_isinstance T.n_str (by decide +kernel)) (pf_and (pf_chain o_le o_le (pf_var 1) (pf_callB c_len T.n_len (by decide +kernel) (paf_cons (pf_var 0) paf_nil)) (pf_var 2)) (pf_one (pf_callB (c_all c0.calm) T.n_all (by decide +kernel) (paf_cons (pf_comp c0.calm c0.nd (pi_val (pf_var 0)) (blkOk_by (own := [("word", 3)]) (N := N_are_words) (sc := defScope s_are_words) (by decide +kernel)) (fun _ _ _ _ _ => (pg_nm 3 c0.blk.nd)) (fun _ _ _ _ _ => pts_no) (fun _ _ _ _ _ => (pf_cmp (o_in c0.blk.hu) (pf_var 3) (pf_globStr T.g_WORDS.choose_spec (by decide +kernel))))) paf_nil)))))))
abbrev s_is_simple : Stmt := top 9
abbrev N_is_simple : List PySem.Str := ["value", "name", "parts", "part"]
theorem sc_is_simple : FnScope N_is_simple ["value"] (defScope s_is_simple) := ⟨rfl, rfl, rfl, by decide +kernel, rfl, by decide +kernel, by decide +kernel⟩
theorem ok_is_simple (T : Txt w K mg base cl) : FnD P w K mg base cl "is_simple" 1 2 P_is_simple := by
    obtain ⟨f, fd, Fn, hm, hb⟩ := T.f_is_simple
    unfold P_is_simple
    exact fnd_mk (N := N_is_simple) (ps := ["value"]) (k := 1) Fn sc_is_simple hb hm fun cdv A outer s H E c0 =>
    (pssf_cons (psf_par2 1 2 c0.calm c0.nd (paf_cons (pf_ix (pf_var 0) pf_int) (paf_cons (pf_slice (pf_var 0) (pof_some pf_int) pof_none) paf_nil)))
    (pssf_cons (psf_if (pt_cmp (o_in c0.hu) (pf_var 1) (pf_tup (paf_cons (pf_str (by decide +kernel)) (paf_cons (pf_str (by decide +kernel)) (paf_cons (pf_str (by decide +kernel)) paf_nil)))))
    (pssf_one (psf_ret (pf_and (pf_cmp (o_eq c0.hu) (pf_callB c_len T.n_len (by decide +kernel) (paf_cons (pf_var 2) paf_nil)) pf_int) (pf_one (pf_call c0 (ok_are_words T) (by omega) (paf_cons (pf_ix (pf_var 2) pf_int) (paf_cons pf_int (paf_cons pf_int paf_nil))))))))
    pssf_nil)
    (pssf_cons (psf_if (pt_cmp (o_eq c0.hu) (pf_var 1) (pf_str (by decide +kernel)))
    (pssf_one (psf_ret (pf_and (pf_cmp (o_eq c0.hu) (pf_callB c_len T.n_len (by decide +kernel) (paf_cons (pf_var 2) paf_nil)) pf_int) (pf_one (pf_call c0 (ok_are_words T) (by omega) (paf_cons (pf_ix (pf_var 2) pf_int) (paf_cons pf_int (paf_cons pf_int paf_nil))))))))
    pssf_nil)
    (pssf_cons (psf_if (pt_cmp (o_in c0.hu) (pf_var 1) (pf_tup (paf_cons (pf_str (by decide +kernel)) (paf_cons (pf_str (by decide +kernel)) paf_nil))))
    (pssf_one (psf_ret (pf_and (pf_cmp (o_eq c0.hu) (pf_callB c_len T.n_len (by decide +kernel) (paf_cons (pf_var 2) paf_nil)) pf_int) (pf_and (pf_callB (c_all c0.calm) T.n_all (by decide +kernel) (paf_cons (pf_comp c0.calm c0.nd (pi_val (pf_slice (pf_var 2) pof_none (pof_some pf_int))) (blkOk_by (own := [("part", 3)]) (N := N_is_simple) (sc := defScope s_is_simple) (by decide +kernel)) (fun _ _ _ _ _ => (pg_nm 3 c0.blk.nd)) (fun _ _ _ _ _ => pts_no) (fun _ _ _ _ _ => (pf_call c0.blk (ok_are_words T) (by omega) (paf_cons (pf_var 3) (paf_cons pf_int (paf_cons pf_int paf_nil)))))) paf_nil)) (pf_one (pf_call c0 (ok_is_between T) (by omega) (paf_cons (pf_ix (pf_var 2) pf_int) (paf_cons pf_int (paf_cons pf_int paf_nil)))))))))
    pssf_nil)
    (pssf_one (psf_ret (pf_and (pf_cmp (o_eq c0.hu) (pf_var 1) (pf_str (by decide +kernel))) (pf_and (pf_cmp (o_eq c0.hu) (pf_callB c_len T.n_len (by decide +kernel) (paf_cons (pf_var 2) paf_nil)) pf_int) (pf_and (pf_call c0 (ok_are_words T) (by omega) (paf_cons (pf_ix (pf_var 2) pf_int) (paf_cons pf_int (paf_cons pf_int paf_nil)))) (pf_one (pf_call c0 (ok_is_between T) (by omega) (paf_cons (pf_ix (pf_var 2) pf_int) (paf_cons pf_int (paf_cons pf_int paf_nil))))))))))))))
abbrev s_is_at_most : Stmt := top 10
abbrev N_is_at_most : List PySem.Str := ["value", "deep", "part"]
theorem sc_is_at_most : FnScope N_is_at_most ["value", "deep"] (defScope s_is_at_most) := ⟨rfl, rfl, rfl, by decide +kernel, rfl, by decide +kernel, by decide +kernel⟩
theorem okn_is_at_most (T : Txt w K mg base cl) : ∀ n : Nat, FnD P w K mg base cl "is_at_most" 2 (2 + n) (P_is_at_most n)
  | 0 => by
    obtain ⟨f, fd, Fn, hm, hb⟩ := T.f_is_at_most
    unfold P_is_at_most
    exact (fnd_un hm Fn.kp hb).mono (Nat.zero_le _)
  | n + 1 => by
    have ih := okn_is_at_most T n
    obtain ⟨f, fd, Fn, hm, hb⟩ := T.f_is_at_most
    unfold P_is_at_most
    exact fnd_mk (N := N_is_at_most) (ps := ["value", "deep"]) (k := 2 + n) Fn sc_is_at_most hb hm fun cdv A outer s H E c0 =>
    (pssf_cons (psf_if (PwF.pt (pw_or (pt_cmp o_lt (pf_var 1) pf_int) (pw_or (pt_not (pt_of (pf_isi .tuple (pf_var 0) T.n_isinstance T.n_tuple (by decide +kernel)))) (pw_or (pt_cmp o_lt (pf_callB c_len T.n_len (by decide +kernel) (paf_cons (pf_var 0) paf_nil)) pf_int) (pw_or1 (pt_not (pt_of (pf_isi .str (pf_ix (pf_var 0) pf_int) T.n_isinstance T.n_str (by decide +kernel)))))))))
    (pssf_one (psf_ret pf_bl))
    pssf_nil)
    (pssf_cons (psf_if (pt_cmp (o_eq c0.hu) (pf_ix (pf_var 0) pf_int) (pf_str (by decide +kernel)))
    (pssf_one (psf_ret (pf_and (pf_cmp (o_eq c0.hu) (pf_callB c_len T.n_len (by decide +kernel) (paf_cons (pf_var 0) paf_nil)) pf_int) (pf_one (pf_call c0 ih (by omega) (paf_cons (pf_ix (pf_var 0) pf_int) (paf_cons (pf_bin o_sub (pf_var 1) pf_int) paf_nil)))))))
    pssf_nil)
    (pssf_cons (psf_if (pt_cmp (o_in c0.hu) (pf_ix (pf_var 0) pf_int) (pf_tup (paf_cons (pf_str (by decide +kernel)) (paf_cons (pf_str (by decide +kernel)) paf_nil))))
    (pssf_one (psf_ret (pf_and (pf_cmp (o_eq c0.hu) (pf_callB c_len T.n_len (by decide +kernel) (paf_cons (pf_var 0) paf_nil)) pf_int) (pf_one (pf_callB (c_all c0.calm) T.n_all (by decide +kernel) (paf_cons (pf_comp c0.calm c0.nd (pi_val (pf_slice (pf_var 0) (pof_some pf_int) pof_none)) (blkOk_by (own := [("part", 2)]) (N := N_is_at_most) (sc := defScope s_is_at_most) (by decide +kernel)) (fun _ _ _ _ _ => (pg_nm 2 c0.blk.nd)) (fun _ _ _ _ _ => pts_no) (fun _ _ _ _ _ => (pf_call c0.blk ih (by omega) (paf_cons (pf_var 2) (paf_cons (pf_bin o_sub (pf_var 1) pf_int) paf_nil))))) paf_nil))))))
    pssf_nil)
    (pssf_one (psf_ret (pf_call c0 (ok_is_simple T) (by omega) (paf_cons (pf_var 0) paf_nil)))))))
theorem okq_is_at_most (T : Txt w K mg base cl) : FnD P w K mg base cl "is_at_most" 2 7 (P_is_at_most fuel) := by
  rw [fuel_eq]
  exact okn_is_at_most T 5
abbrev s_is_question : Stmt := top 11
abbrev N_is_question : List PySem.Str := ["value"]
theorem sc_is_question : FnScope N_is_question ["value"] (defScope s_is_question) := ⟨rfl, rfl, rfl, by decide +kernel, rfl, by decide +kernel, by decide +kernel⟩
theorem ok_is_question (T : Txt w K mg base cl) : FnD P w K mg base cl "is_question" 1 8 P_is_question := by
    obtain ⟨f, fd, Fn, hm, hb⟩ := T.f_is_question
    unfold P_is_question
    exact fnd_mk (N := N_is_question) (ps := ["value"]) (k := 7) Fn sc_is_question hb hm fun cdv A outer s H E c0 =>
    (pssf_one (psf_ret (pf_call c0 (okq_is_at_most T) (by omega) (paf_cons (pf_var 0) (paf_cons (pf_globInt T.g_DEEP.choose_spec) paf_nil)))))
abbrev s_check_question : Stmt := top 12
abbrev N_check_question : List PySem.Str := ["value"]
theorem sc_check_question : FnScope N_check_question ["value"] (defScope s_check_question) := ⟨rfl, rfl, rfl, by decide +kernel, rfl, by decide +kernel, by decide +kernel⟩
theorem ok_check_question (T : Txt w K mg base cl) : FnD P w K mg base cl "check_question" 1 9 P_check_question := by
    obtain ⟨f, fd, Fn, hm, hb⟩ := T.f_check_question
    unfold P_check_question
    exact fnd_mk (N := N_check_question) (ps := ["value"]) (k := 8) Fn sc_check_question hb hm fun cdv A outer s H E c0 =>
    (pssf_one (psf_if (pt_not (pt_of (pf_call c0 (ok_is_question T) (by omega) (paf_cons (pf_var 0) paf_nil))))
    (pssf_one (psf_raise T.x_InvalidQuestion c0.calm c0.take))
    pssf_nil))
abbrev s_Reader_collect : Stmt := (clsB (top 15)).getD 1 (.Pass ⟨0, 0, 0, 0⟩)
abbrev N_Reader_collect : List PySem.Str := ["self", "question", "part"]
theorem sc_Reader_collect : FnScope N_Reader_collect ["self", "question"] (defScope s_Reader_collect) := ⟨rfl, rfl, rfl, by decide +kernel, rfl, by decide +kernel, by decide +kernel⟩
theorem okn_Reader_collect (T : Txt w K mg base cl) : ∀ n : Nat, MtD P w K mg base cl [82, 101, 97, 100, 101, 114] [99, 111, 108, 108, 101, 99, 116] 2 (0 + n) (P_Reader_collect n)
  | 0 => by
    obtain ⟨C, f, fd, Fn, hb, h1, h2, h3⟩ := T.f_Reader_collect
    unfold P_Reader_collect
    exact (mtd_un hb h1 h2 h3).mono (Nat.zero_le _)
  | n + 1 => by
    have ih := okn_Reader_collect T n
    obtain ⟨C, f, fd, Fn, hb, h1, h2, h3⟩ := T.f_Reader_collect
    unfold P_Reader_collect
    exact mtd_mk (N := N_Reader_collect) (ps := ["self", "question"]) (k := 0 + n) Fn sc_Reader_collect hb h1 h2 h3 fun cdv A outer s H E c0 =>
    (pssf_one (psf_if (pt_cmp (o_in c0.hu) (pf_ix (pf_var 1) pf_int) (pf_tup (paf_cons (pf_str (by decide +kernel)) (paf_cons (pf_str (by decide +kernel)) (paf_cons (pf_str (by decide +kernel)) paf_nil)))))
    (pssf_one (psf_for c0.own c0.calm (pi_val (pf_slice (pf_var 1) (pof_some pf_int) pof_none)) (pg_nm 2 c0.nd)
    (pssf_one (psf_expr (pf_meth c0 ih (by omega) (pf_var 0) (paf_cons (pf_var 2) paf_nil))))))
    (pssf_one (psf_if (pt_cmp (o_notIn c0.hu) (pf_var 1) (pf_fld T.fl_Reader_simple (pf_var 0)))
    (pssf_one (psf_expr (pf_app (pf_fld T.fl_Reader_simple (pf_var 0)) (pf_var 1))))
    pssf_nil))))
theorem okq_Reader_collect (T : Txt w K mg base cl) : MtD P w K mg base cl [82, 101, 97, 100, 101, 114] [99, 111, 108, 108, 101, 99, 116] 2 5 (P_Reader_collect fuel) := by
  rw [fuel_eq]
  exact okn_Reader_collect T 5
abbrev s_Reader_init : Stmt := (clsB (top 15)).getD 0 (.Pass ⟨0, 0, 0, 0⟩)
abbrev N_Reader_init : List PySem.Str := ["self", "questions", "question"]
theorem sc_Reader_init : FnScope N_Reader_init ["self", "questions"] (defScope s_Reader_init) := ⟨rfl, rfl, rfl, by decide +kernel, rfl, by decide +kernel, by decide +kernel⟩
theorem ok_Reader_init (T : Txt w K mg base cl) : InD P w K mg base cl [82, 101, 97, 100, 101, 114] 2 6 P_Reader_init := by
    obtain ⟨C, f, fd, Fn, hb, h1, h2, h3⟩ := T.f_Reader_init
    unfold P_Reader_init
    exact ind_mk (N := N_Reader_init) (ps := ["self", "questions"]) (k := 5) Fn sc_Reader_init hb h1 h2 h3 fun cdv A outer s H E c0 =>
    (pssf_cons (psf_fld T.fl_Reader_questions (pf_var 0) (pf_var 1))
    (pssf_cons (psf_fld T.fl_Reader_simple (pf_var 0) (pf_new paf_nil))
    (pssf_cons (psf_for c0.own c0.calm (pi_val (pf_var 1)) (pg_nm 2 c0.nd)
    (pssf_one (psf_expr (pf_meth c0 (okq_Reader_collect T) (by omega) (pf_var 0) (paf_cons (pf_var 2) paf_nil)))))
    (pssf_cons (psf_fld T.fl_Reader_known (pf_var 0) pf_dict0)
    (pssf_one (psf_fld T.fl_Reader_told (pf_var 0) pf_dict0))))))
abbrev s_Reader_start : Stmt := (clsB (top 15)).getD 2 (.Pass ⟨0, 0, 0, 0⟩)
abbrev N_Reader_start : List PySem.Str := ["self", "question"]
theorem sc_Reader_start : FnScope N_Reader_start ["self"] (defScope s_Reader_start) := ⟨rfl, rfl, rfl, by decide +kernel, rfl, by decide +kernel, by decide +kernel⟩
theorem ok_Reader_start (T : Txt w K mg base cl) : MtD P w K mg base cl [82, 101, 97, 100, 101, 114] [115, 116, 97, 114, 116] 1 1 P_Reader_start := by
    obtain ⟨C, f, fd, Fn, hb, h1, h2, h3⟩ := T.f_Reader_start
    unfold P_Reader_start
    exact mtd_mk (N := N_Reader_start) (ps := ["self"]) (k := 0) Fn sc_Reader_start hb h1 h2 h3 fun cdv A outer s H E c0 =>
    (pssf_one (psf_ret (pf_callTy c_tuple T.n_tuple (by decide +kernel) (paf_cons (pf_comp c0.calm c0.nd (pi_val (pf_fld T.fl_Reader_simple (pf_var 0))) (blkOk_by (own := [("question", 1)]) (N := N_Reader_start) (sc := defScope s_Reader_start) (by decide +kernel)) (fun _ _ _ _ _ => (pg_nm 1 c0.blk.nd)) (fun _ _ _ _ _ => pts_no) (fun _ _ _ _ _ => (pf_if (pt_cmp (o_eq c0.blk.hu) (pf_ix (pf_var 1) pf_int) (pf_str (by decide +kernel))) (pf_str (by decide +kernel)) (pf_str (by decide +kernel))))) paf_nil))))
abbrev s_window : Stmt := top 16
abbrev N_window : List PySem.Str := ["question", "part", "word", "name", "is_found", "v", "w", "gap"]
theorem sc_window : FnScope N_window ["question", "part", "word"] (defScope s_window) := ⟨rfl, rfl, rfl, by decide +kernel, rfl, by decide +kernel, by decide +kernel⟩
theorem ok_window (T : Txt w K mg base cl) : FnD P w K mg base cl "window" 3 1 P_window := by
    obtain ⟨f, fd, Fn, hm, hb⟩ := T.f_window
    unfold P_window
    exact fnd_mk (N := N_window) (ps := ["question", "part", "word"]) (k := 0) Fn sc_window hb hm fun cdv A outer s H E c0 =>
    (pssf_cons (psf_set 3 c0.nd (pf_ix (pf_var 0) pf_int))
    (pssf_cons (psf_if (pt_cmp (o_eq c0.hu) (pf_var 3) (pf_str (by decide +kernel)))
    (pssf_one (psf_ret (pf_if (pt_cmp (o_eq c0.hu) (pf_bin o_add (pf_var 1) (pf_var 2)) (pf_ix (pf_var 0) pf_int)) (pf_globStr T.g_FOUND.choose_spec (by decide +kernel)) (pf_slice (pf_bin o_add (pf_var 1) (pf_var 2)) (pof_some (pf_bin o_sub pf_int (pf_callB c_len T.n_len (by decide +kernel) (paf_cons (pf_ix (pf_var 0) pf_int) paf_nil)))) pof_none))))
    pssf_nil)
    (pssf_cons (psf_asg (pf_slice (pf_var 0) (pof_some pf_int) pof_none) (pg_tp c0.calm (pgsf_cons (pg_nm 5 c0.nd) (pgsf_cons (pg_nm 6 c0.nd) (pgsf_cons (pg_nm 7 c0.nd) pgsf_nil)))))
    (pssf_cons (psf_set 4 c0.nd (pf_or (pf_and (pf_cmp (o_eq c0.hu) (pf_var 2) (pf_var 6)) (pf_one (pf_cmp (o_in c0.hu) (pf_var 5) (pf_var 1)))) (pf_one (pf_and (pf_cmp (o_eq c0.hu) (pf_var 3) (pf_str (by decide +kernel))) (pf_and (pf_cmp (o_eq c0.hu) (pf_var 2) (pf_var 5)) (pf_one (pf_cmp (o_in c0.hu) (pf_var 6) (pf_var 1))))))))
    (pssf_one (psf_ret (pf_if (pt_of (pf_var 4)) (pf_globStr T.g_FOUND.choose_spec (by decide +kernel)) (pf_slice (pf_bin o_add (pf_var 1) (pf_var 2)) (pof_some (pf_bin o_sub (pf_neg pf_int) (pf_var 7))) pof_none))))))))
abbrev s_stepped : Stmt := top 17
abbrev N_stepped : List PySem.Str := ["question", "part", "word", "name", "v"]
theorem sc_stepped : FnScope N_stepped ["question", "part", "word"] (defScope s_stepped) := ⟨rfl, rfl, rfl, by decide +kernel, rfl, by decide +kernel, by decide +kernel⟩
theorem ok_stepped (T : Txt w K mg base cl) : FnD P w K mg base cl "stepped" 3 2 P_stepped := by
    obtain ⟨f, fd, Fn, hm, hb⟩ := T.f_stepped
    unfold P_stepped
    exact fnd_mk (N := N_stepped) (ps := ["question", "part", "word"]) (k := 1) Fn sc_stepped hb hm fun cdv A outer s H E c0 =>
    (pssf_cons (psf_par2 3 4 c0.calm c0.nd (paf_cons (pf_ix (pf_var 0) pf_int) (paf_cons (pf_ix (pf_var 0) pf_int) paf_nil)))
    (pssf_cons (psf_if (pt_cmp (o_eq c0.hu) (pf_var 3) (pf_str (by decide +kernel)))
    (pssf_one (psf_ret (pf_if (pt_cmp (o_eq c0.hu) (pf_var 2) (pf_var 4)) (pf_globStr T.g_FOUND.choose_spec (by decide +kernel)) (pf_str (by decide +kernel)))))
    pssf_nil)
    (pssf_cons (psf_if (pt_cmp (o_eq c0.hu) (pf_var 1) (pf_globStr T.g_FOUND.choose_spec (by decide +kernel)))
    (pssf_one (psf_ret (pf_var 1)))
    pssf_nil)
    (pssf_cons (psf_if (pt_cmp (o_eq c0.hu) (pf_var 3) (pf_str (by decide +kernel)))
    (pssf_one (psf_ret (pf_if (pt_cmp (o_eq c0.hu) (pf_var 2) (pf_var 4)) (pf_globStr T.g_FOUND.choose_spec (by decide +kernel)) (pf_str (by decide +kernel)))))
    pssf_nil)
    (pssf_cons (psf_if (pt_cmp (o_eq c0.hu) (pf_var 3) (pf_str (by decide +kernel)))
    (pssf_one (psf_ret (pf_if (PwF.pt (pw_and (pt_cmp (o_eq c0.hu) (pf_var 1) (pf_str (by decide +kernel))) (pw_and1 (pt_cmp (o_eq c0.hu) (pf_var 2) (pf_var 4))))) (pf_globStr T.g_FOUND.choose_spec (by decide +kernel)) (pf_str (by decide +kernel)))))
    pssf_nil)
    (pssf_cons (psf_if (pt_cmp (o_eq c0.hu) (pf_var 3) (pf_str (by decide +kernel)))
    (pssf_one (psf_ret (pf_callTy c_strI T.n_str (by decide +kernel) (paf_cons (pf_callB (c_min2 c0.calm) T.n_min (by decide +kernel) (paf_cons (pf_ix (pf_var 0) pf_int) (paf_cons (pf_bin o_add (pf_callTy c_int T.n_int (by decide +kernel) (paf_cons (pf_var 1) paf_nil)) (pf_callTy c_int T.n_int (by decide +kernel) (paf_cons (pf_cmp (o_eq c0.hu) (pf_var 2) (pf_var 4)) paf_nil))) paf_nil))) paf_nil))))
    pssf_nil)
    (pssf_one (psf_ret (pf_call c0 (ok_window T) (by omega) (paf_cons (pf_var 0) (paf_cons (pf_var 1) (paf_cons (pf_var 2) paf_nil))))))))))))
abbrev s_Reader_step : Stmt := (clsB (top 15)).getD 3 (.Pass ⟨0, 0, 0, 0⟩)
abbrev N_Reader_step : List PySem.Str := ["self", "state", "word", "key", "question", "part"]
theorem sc_Reader_step : FnScope N_Reader_step ["self", "state", "word"] (defScope s_Reader_step) := ⟨rfl, rfl, rfl, by decide +kernel, rfl, by decide +kernel, by decide +kernel⟩
theorem ok_Reader_step (T : Txt w K mg base cl) : MtD P w K mg base cl [82, 101, 97, 100, 101, 114] [115, 116, 101, 112] 3 3 P_Reader_step := by
    obtain ⟨C, f, fd, Fn, hb, h1, h2, h3⟩ := T.f_Reader_step
    unfold P_Reader_step
    exact mtd_mk (N := N_Reader_step) (ps := ["self", "state", "word"]) (k := 2) Fn sc_Reader_step hb h1 h2 h3 fun cdv A outer s H E c0 =>
    (pssf_cons (psf_set 3 c0.nd (pf_tup (paf_cons (pf_var 1) (paf_cons (pf_var 2) paf_nil))))
    (pssf_cons (psf_if (pt_cmp (o_knotin c0.hu) (pf_var 3) (pf_fld T.fl_Reader_known (pf_var 0)))
    (pssf_one (psf_asg (pf_callTy c_tuple T.n_tuple (by decide +kernel) (paf_cons (pf_comp c0.calm c0.nd (pi_zip (pf_fld T.fl_Reader_simple (pf_var 0)) (pf_var 1) T.n_zip) (blkOk_by (own := [("question", 4), ("part", 5)]) (N := N_Reader_step) (sc := defScope s_Reader_step) (by decide +kernel)) (fun _ _ _ _ _ => (pg_tp c0.blk.calm (pgsf_cons (pg_nm 4 c0.blk.nd) (pgsf_cons (pg_nm 5 c0.blk.nd) pgsf_nil)))) (fun _ _ _ _ _ => pts_no) (fun _ _ _ _ _ => (pf_call c0.blk (ok_stepped T) (by omega) (paf_cons (pf_var 4) (paf_cons (pf_var 5) (paf_cons (pf_var 2) paf_nil)))))) paf_nil)) (pg_subK c0.hu (pf_fld T.fl_Reader_known (pf_var 0)) (pf_var 3))))
    pssf_nil)
    (pssf_one (psf_ret (pf_kix c0.hu (pf_fld T.fl_Reader_known (pf_var 0)) (pf_var 3))))))
abbrev s_check_size : Stmt := top 19
abbrev N_check_size : List PySem.Str := ["size", "most"]
theorem sc_check_size : FnScope N_check_size ["size", "most"] (defScope s_check_size) := ⟨rfl, rfl, rfl, by decide +kernel, rfl, by decide +kernel, by decide +kernel⟩
theorem ok_check_size (T : Txt w K mg base cl) : FnD P w K mg base cl "check_size" 2 2 P_check_size := by
    obtain ⟨f, fd, Fn, hm, hb⟩ := T.f_check_size
    unfold P_check_size
    exact fnd_mk (N := N_check_size) (ps := ["size", "most"]) (k := 1) Fn sc_check_size hb hm fun cdv A outer s H E c0 =>
    (pssf_one (psf_if (pt_not (pt_of (pf_call c0 (ok_is_between T) (by omega) (paf_cons (pf_var 0) (paf_cons pf_int (paf_cons (pf_var 1) paf_nil))))))
    (pssf_one (psf_raise T.x_InvalidNumber c0.calm c0.take))
    pssf_nil))
abbrev s_count_found : Stmt := top 20
abbrev N_count_found : List PySem.Str := ["question", "size", "reader", "level", "step", "later", "state", "many", "word", "after"]
theorem sc_count_found : FnScope N_count_found ["question", "size"] (defScope s_count_found) := ⟨rfl, rfl, rfl, by decide +kernel, rfl, by decide +kernel, by decide +kernel⟩
theorem ok_count_found (T : Txt w K mg base cl) : FnD P w K mg base cl "count_found" 2 11 P_count_found := by
    obtain ⟨f, fd, Fn, hm, hb⟩ := T.f_count_found
    unfold P_count_found
    exact fnd_mk (N := N_count_found) (ps := ["question", "size"]) (k := 10) Fn sc_count_found hb hm fun cdv A outer s H E c0 =>
    (pssf_cons (psf_expr (pf_call c0 (ok_check_question T) (by omega) (paf_cons (pf_var 0) paf_nil)))
    (pssf_cons (psf_expr (pf_call c0 (ok_check_size T) (by omega) (paf_cons (pf_var 1) (paf_cons pf_int paf_nil))))
    (pssf_cons (psf_set 2 c0.nd (pf_make c0 (ok_Reader_init T) (by omega) (paf_cons (pf_lst (paf_cons (pf_var 0) paf_nil)) paf_nil)))
    (pssf_cons (psf_set 3 c0.nd (pf_dict1 c0.hu (pf_meth0 c0 (ok_Reader_start T) (by omega) (pf_var 2)) pf_int))
    (pssf_cons (psf_for c0.own c0.calm (pi_rng1 (pf_var 1) T.n_range) (pg_nm 4 c0.nd)
    (pssf_cons (psf_set 5 c0.nd pf_dict0)
    (pssf_cons (psf_lock 3 (psf_for c0.own c0.calm (pi_frzI (pf_var 3)) (pg_tp c0.calm (pgsf_cons (pg_nm 6 c0.nd) (pgsf_cons (pg_nm 7 c0.nd) pgsf_nil)))
    (pssf_one (psf_for c0.own c0.calm (pi_val (pf_globStr T.g_WORDS.choose_spec (by decide +kernel))) (pg_nm 8 c0.nd)
    (pssf_cons (psf_set 9 c0.nd (pf_meth c0 (ok_Reader_step T) (by omega) (pf_var 2) (paf_cons (pf_var 6) (paf_cons (pf_var 8) paf_nil))))
    (pssf_one (psf_asg (pf_bin o_add (pf_kget c0.hu (pf_var 5) (pf_var 9) pf_int) (pf_var 7)) (pg_subK c0.hu (pf_var 5) (pf_var 9)))))))))
    (pssf_one (psf_set 3 c0.nd (pf_var 5))))))
    (pssf_one (psf_ret (pf_callB (c_sum c0.calm) T.n_sum (by decide +kernel) (paf_cons (pf_lock 3 (pf_comp c0.calm c0.nd (pi_frzI (pf_var 3)) (blkOk_by (own := [("state", 6), ("many", 7)]) (N := N_count_found) (sc := defScope s_count_found) (by decide +kernel)) (fun _ _ _ _ _ => (pg_tp c0.blk.calm (pgsf_cons (pg_nm 6 c0.blk.nd) (pgsf_cons (pg_nm 7 c0.blk.nd) pgsf_nil)))) (fun _ _ _ _ _ => (pts_if (pt_of (pf_ix (pf_meth c0.blk (ok_Reader_answers T) (by omega) (pf_var 2) (paf_cons (pf_var 6) paf_nil)) pf_int)))) (fun _ _ _ _ _ => (pf_var 7)))) paf_nil)))))))))
abbrev s_found_sets : Stmt := top 21
abbrev N_found_sets : List PySem.Str := ["question", "reader", "start", "met", "level", "later", "state", "some", "word", "after"]
theorem sc_found_sets : FnScope N_found_sets ["question"] (defScope s_found_sets) := ⟨rfl, rfl, rfl, by decide +kernel, rfl, by decide +kernel, by decide +kernel⟩
theorem ok_found_sets (T : Txt w K mg base cl) : FnD P w K mg base cl "found_sets" 1 8 P_found_sets := by
    obtain ⟨f, fd, Fn, hm, hb⟩ := T.f_found_sets
    unfold P_found_sets
    exact fnd_mk (N := N_found_sets) (ps := ["question"]) (k := 7) Fn sc_found_sets hb hm fun cdv A outer s H E c0 =>
    (pssf_cons (psf_set 1 c0.nd (pf_make c0 (ok_Reader_init T) (by omega) (paf_cons (pf_lst (paf_cons (pf_var 0) paf_nil)) paf_nil)))
    (pssf_cons (psf_set 2 c0.nd (pf_tup (paf_cons (pf_meth0 c0 (ok_Reader_start T) (by omega) (pf_var 1)) (paf_cons (pf_str (by decide +kernel)) paf_nil))))
    (pssf_cons (psf_par2 3 4 c0.calm c0.nd (paf_cons (pf_dict1 c0.hu (pf_var 2) (pf_str (by decide +kernel))) (paf_cons (pf_lst (paf_cons (pf_var 2) paf_nil)) paf_nil)))
    (pssf_cons (psf_while _ c0.own (pt_cmp (o_ne c0.hu) (pf_var 4) (pf_lst paf_nil))
    (pssf_cons (psf_set 5 c0.nd (pf_new paf_nil))
    (pssf_cons (psf_for c0.own c0.calm (pi_val (pf_var 4)) (pg_tp c0.calm (pgsf_cons (pg_nm 6 c0.nd) (pgsf_cons (pg_nm 7 c0.nd) pgsf_nil)))
    (pssf_one (psf_for c0.own c0.calm (pi_val (pf_globStr T.g_WORDS.choose_spec (by decide +kernel))) (pg_nm 8 c0.nd)
    (pssf_cons (psf_set 9 c0.nd (pf_tup (paf_cons (pf_meth c0 (ok_Reader_step T) (by omega) (pf_var 1) (paf_cons (pf_var 6) (paf_cons (pf_var 8) paf_nil))) (paf_cons (pf_strM PySem.F.slot_str_join PySem.F.type_str_join m_join (pf_str (by decide +kernel)) (pf_sortset c0.calm (pf_bin o_add (pf_var 7) (pf_var 8)) (by decide +kernel) T.n_sorted (by decide +kernel) T.n_set)) paf_nil))))
    (pssf_one (psf_if (pt_cmp (o_knotin c0.hu) (pf_var 9) (pf_var 3))
    (pssf_cons (psf_asg (pf_bin o_add (pf_kix c0.hu (pf_var 3) (pf_tup (paf_cons (pf_var 6) (paf_cons (pf_var 7) paf_nil)))) (pf_var 8)) (pg_subK c0.hu (pf_var 3) (pf_var 9)))
    (pssf_one (psf_expr (pf_app (pf_var 5) (pf_var 9)))))
    pssf_nil))))))
    (pssf_one (psf_set 4 c0.nd (pf_var 5))))))
    (pssf_one (psf_ret (pf_tup (paf_cons (pf_var 3) (paf_cons (pf_var 1) paf_nil)))))))))
abbrev s_sets_found : Stmt := top 22
abbrev N_sets_found : List PySem.Str := ["question", "met", "reader", "state", "some"]
theorem sc_sets_found : FnScope N_sets_found ["question"] (defScope s_sets_found) := ⟨rfl, rfl, rfl, by decide +kernel, rfl, by decide +kernel, by decide +kernel⟩
theorem ok_sets_found (T : Txt w K mg base cl) : FnD P w K mg base cl "sets_found" 1 9 P_sets_found := by
    obtain ⟨f, fd, Fn, hm, hb⟩ := T.f_sets_found
    unfold P_sets_found
    exact fnd_mk (N := N_sets_found) (ps := ["question"]) (k := 8) Fn sc_sets_found hb hm fun cdv A outer s H E c0 =>
    (pssf_cons (psf_asg (pf_call c0 (ok_found_sets T) (by omega) (paf_cons (pf_var 0) paf_nil)) (pg_tp c0.calm (pgsf_cons (pg_nm 1 c0.nd) (pgsf_cons (pg_nm 2 c0.nd) pgsf_nil))))
    (pssf_one (psf_ret (pf_sortset c0.calm (pf_lock 1 (pf_comp c0.calm c0.nd (pi_frzK (pf_var 1)) (blkOk_by (own := [("state", 3), ("some", 4)]) (N := N_sets_found) (sc := defScope s_sets_found) (by decide +kernel)) (fun _ _ _ _ _ => (pg_tp c0.blk.calm (pgsf_cons (pg_nm 3 c0.blk.nd) (pgsf_cons (pg_nm 4 c0.blk.nd) pgsf_nil)))) (fun _ _ _ _ _ => (pts_if (pt_of (pf_ix (pf_meth c0.blk (ok_Reader_answers T) (by omega) (pf_var 2) (paf_cons (pf_var 3) paf_nil)) pf_int)))) (fun _ _ _ _ _ => (pf_var 4)))) (by decide +kernel) T.n_sorted (by decide +kernel) T.n_set))))
abbrev s_needed_words : Stmt := top 23
abbrev N_needed_words : List PySem.Str := ["question", "rows", "word", "row"]
theorem sc_needed_words : FnScope N_needed_words ["question"] (defScope s_needed_words) := ⟨rfl, rfl, rfl, by decide +kernel, rfl, by decide +kernel, by decide +kernel⟩
theorem ok_needed_words (T : Txt w K mg base cl) : FnD P w K mg base cl "needed_words" 1 10 P_needed_words := by
    obtain ⟨f, fd, Fn, hm, hb⟩ := T.f_needed_words
    unfold P_needed_words
    exact fnd_mk (N := N_needed_words) (ps := ["question"]) (k := 9) Fn sc_needed_words hb hm fun cdv A outer s H E c0 =>
    (pssf_cons (psf_expr (pf_call c0 (ok_check_question T) (by omega) (paf_cons (pf_var 0) paf_nil)))
    (pssf_cons (psf_set 1 c0.nd (pf_call c0 (ok_sets_found T) (by omega) (paf_cons (pf_var 0) paf_nil)))
    (pssf_one (psf_ret (pf_strM PySem.F.slot_str_join PySem.F.type_str_join m_join (pf_str (by decide +kernel)) (pf_comp c0.calm c0.nd (pi_val (pf_globStr T.g_WORDS.choose_spec (by decide +kernel))) (blkOk_by (own := [("word", 2)]) (N := N_needed_words) (sc := defScope s_needed_words) (by decide +kernel)) (fun _ _ _ _ _ => (pg_nm 2 c0.blk.nd)) (fun _ _ _ _ _ => (pts_if (pt_of (pf_callB (c_all c0.blk.calm) T.n_all (by decide +kernel) (paf_cons (pf_comp c0.blk.calm c0.blk.nd (pi_val (pf_var 1)) (blkOk_by (own := [("row", 3)]) (N := N_needed_words) (by with_unfolding_all rfl)) (fun _ _ _ _ _ => (pg_nm 3 c0.blk.blk.nd)) (fun _ _ _ _ _ => pts_no) (fun _ _ _ _ _ => (pf_cmp (o_in c0.blk.blk.hu) (pf_var 2) (pf_var 3)))) paf_nil))))) (fun _ _ _ _ _ => (pf_var 2))))))))
abbrev s_useless_words : Stmt := top 24
abbrev N_useless_words : List PySem.Str := ["question", "rows", "word", "row"]
theorem sc_useless_words : FnScope N_useless_words ["question"] (defScope s_useless_words) := ⟨rfl, rfl, rfl, by decide +kernel, rfl, by decide +kernel, by decide +kernel⟩
theorem ok_useless_words (T : Txt w K mg base cl) : FnD P w K mg base cl "useless_words" 1 10 P_useless_words := by
    obtain ⟨f, fd, Fn, hm, hb⟩ := T.f_useless_words
    unfold P_useless_words
    exact fnd_mk (N := N_useless_words) (ps := ["question"]) (k := 9) Fn sc_useless_words hb hm fun cdv A outer s H E c0 =>
    (pssf_cons (psf_expr (pf_call c0 (ok_check_question T) (by omega) (paf_cons (pf_var 0) paf_nil)))
    (pssf_cons (psf_set 1 c0.nd (pf_call c0 (ok_sets_found T) (by omega) (paf_cons (pf_var 0) paf_nil)))
    (pssf_one (psf_ret (pf_strM PySem.F.slot_str_join PySem.F.type_str_join m_join (pf_str (by decide +kernel)) (pf_comp c0.calm c0.nd (pi_val (pf_globStr T.g_WORDS.choose_spec (by decide +kernel))) (blkOk_by (own := [("word", 2)]) (N := N_useless_words) (sc := defScope s_useless_words) (by decide +kernel)) (fun _ _ _ _ _ => (pg_nm 2 c0.blk.nd)) (fun _ _ _ _ _ => (pts_if (pt_not (pt_of (pf_callB (c_any c0.blk.calm) T.n_any (by decide +kernel) (paf_cons (pf_comp c0.blk.calm c0.blk.nd (pi_val (pf_var 1)) (blkOk_by (own := [("row", 3)]) (N := N_useless_words) (by with_unfolding_all rfl)) (fun _ _ _ _ _ => (pg_nm 3 c0.blk.blk.nd)) (fun _ _ _ _ _ => pts_no) (fun _ _ _ _ _ => (pf_cmp (o_in c0.blk.blk.hu) (pf_var 2) (pf_var 3)))) paf_nil)))))) (fun _ _ _ _ _ => (pf_var 2))))))))
abbrev s_first_with : Stmt := top 26
abbrev N_first_with : List PySem.Str := ["questions", "is_wanted"]
theorem sc_first_with : FnScope N_first_with ["questions", "is_wanted"] (defScope s_first_with) := ⟨rfl, rfl, rfl, by decide +kernel, rfl, by decide +kernel, by decide +kernel⟩

abbrev s_Reader_first : Stmt := (clsB (top 15)).getD 6 (.Pass ⟨0, 0, 0, 0⟩)
abbrev N_Reader_first : List PySem.Str := ["self", "is_wanted", "start", "met", "level", "later", "state", "text", "word", "after"]
theorem sc_Reader_first : FnScope N_Reader_first ["self", "is_wanted"] (defScope s_Reader_first) := ⟨rfl, rfl, rfl, by decide +kernel, rfl, by decide +kernel, by decide +kernel⟩

theorem ok_Reader_first_W (T : Txt w K mg base cl) {kl jl : Nat} {Fl : FF} (hl : LmD P w K mg base cl kl 2 jl Fl) (hjl : jl ≤ 7) : MtD P w K mg base cl [82, 101, 97, 100, 101, 114] [102, 105, 114, 115, 116] 2 8 (P_Reader_first_W kl Fl) := by
    obtain ⟨C, f, fd, Fn, hb, h1, h2, h3⟩ := T.f_Reader_first
    unfold P_Reader_first_W
    exact mtd_mk (N := N_Reader_first) (ps := ["self", "is_wanted"]) (k := 7) Fn sc_Reader_first hb h1 h2 h3 fun cdv A outer s H E c0 =>
    (pssf_cons (psf_set 2 c0.nd (pf_meth0 c0 (ok_Reader_start T) (by omega) (pf_var 0)))
    (pssf_cons (psf_par2 3 4 c0.calm c0.nd (paf_cons (pf_dict1 c0.hu (pf_var 2) pf_bl) (paf_cons (pf_lst (paf_cons (pf_tup (paf_cons (pf_var 2) (paf_cons (pf_str (by decide +kernel)) paf_nil))) paf_nil)) paf_nil)))
    (pssf_cons (psf_while _ c0.own (pt_cmp (o_ne c0.hu) (pf_var 4) (pf_lst paf_nil))
    (pssf_cons (psf_set 5 c0.nd (pf_new paf_nil))
    (pssf_cons (psf_for c0.own c0.calm (pi_val (pf_var 4)) (pg_tp c0.calm (pgsf_cons (pg_nm 6 c0.nd) (pgsf_cons (pg_nm 7 c0.nd) pgsf_nil)))
    (pssf_cons (psf_if (pt_of (pf_callW c0 hl (by omega) 1 (paf_cons (pf_var 0) (paf_cons (pf_var 6) paf_nil))))
    (pssf_one (psf_ret (pf_var 7)))
    pssf_nil)
    (pssf_one (psf_for c0.own c0.calm (pi_val (pf_globStr T.g_WORDS.choose_spec (by decide +kernel))) (pg_nm 8 c0.nd)
    (pssf_cons (psf_set 9 c0.nd (pf_meth c0 (ok_Reader_step T) (by omega) (pf_var 0) (paf_cons (pf_var 6) (paf_cons (pf_var 8) paf_nil))))
    (pssf_one (psf_if (pt_cmp (o_knotin c0.hu) (pf_var 9) (pf_var 3))
    (pssf_cons (psf_asg pf_bl (pg_subK c0.hu (pf_var 3) (pf_var 9)))
    (pssf_one (psf_expr (pf_app (pf_var 5) (pf_tup (paf_cons (pf_var 9) (paf_cons (pf_bin o_add (pf_var 7) (pf_var 8)) paf_nil)))))))
    pssf_nil)))))))
    (pssf_one (psf_set 4 c0.nd (pf_var 5))))))
    (pssf_one (psf_ret pf_non)))))
theorem ok_first_with (T : Txt w K mg base cl) {kl jl : Nat} {Fl : FF} {Ll : LamI} (hlL : cl.lam kl = Ll) (hlf : Ll.fr = []) (hl : LmD P w K mg base cl kl 1 jl Fl) (hjl : jl ≤ 1) : FnD P w K mg base cl "first_with" 2 10 (P_first_with kl Fl) := by
    obtain ⟨f, fd, cc, Fn, hm, hb, TD⟩ := T.f_first_with
    unfold P_first_with
    exact fnd_mkC (N := N_first_with) (ps := ["questions", "is_wanted"]) (k := 9) Fn sc_first_with hb hm fun A outer s H E c0 =>
    (pssf_one (psf_ret (pf_methWL c0 (T.lam 0) (ok_Reader_first_W T (lm_0 T hlL hlf hl (by omega)) (by omega)) (by omega) (pf_make c0 (ok_Reader_init T) (by omega) (paf_cons (pf_var 0) paf_nil)) 1 TD (hq := q_0))))
abbrev s_is_within : Stmt := top 27
abbrev N_is_within : List PySem.Str := ["one", "other"]
theorem sc_is_within : FnScope N_is_within ["one", "other"] (defScope s_is_within) := ⟨rfl, rfl, rfl, by decide +kernel, rfl, by decide +kernel, by decide +kernel⟩
theorem ok_is_within (T : Txt w K mg base cl) : FnD P w K mg base cl "is_within" 2 11 P_is_within := by
    obtain ⟨f, fd, cc, Fn, hm, hb, TD⟩ := T.f_is_within
    unfold P_is_within
    exact fnd_mkC (N := N_is_within) (ps := ["one", "other"]) (k := 10) Fn sc_is_within hb hm fun A outer s H E c0 =>
    (pssf_cons (psf_expr (pf_call c0 (ok_check_question T) (by omega) (paf_cons (pf_var 0) paf_nil)))
    (pssf_cons (psf_expr (pf_call c0 (ok_check_question T) (by omega) (paf_cons (pf_var 1) paf_nil)))
    (pssf_one (psf_ret (pf_isN (pf_call c0 (ok_first_with T (T.lam 2) rfl (lm_2 T) (by omega)) (by omega) (paf_cons (pf_lst (paf_cons (pf_var 0) (paf_cons (pf_var 1) paf_nil))) (paf_cons (pf_lamL (T.lam 2) TD (hq := q_2)) paf_nil))))))))
abbrev s_first_found : Stmt := top 28
abbrev N_first_found : List PySem.Str := ["question"]
theorem sc_first_found : FnScope N_first_found ["question"] (defScope s_first_found) := ⟨rfl, rfl, rfl, by decide +kernel, rfl, by decide +kernel, by decide +kernel⟩
theorem ok_first_found (T : Txt w K mg base cl) : FnD P w K mg base cl "first_found" 1 11 P_first_found := by
    obtain ⟨f, fd, cc, Fn, hm, hb, TD⟩ := T.f_first_found
    unfold P_first_found
    exact fnd_mkC (N := N_first_found) (ps := ["question"]) (k := 10) Fn sc_first_found hb hm fun A outer s H E c0 =>
    (pssf_cons (psf_expr (pf_call c0 (ok_check_question T) (by omega) (paf_cons (pf_var 0) paf_nil)))
    (pssf_one (psf_ret (pf_call c0 (ok_first_with T (T.lam 3) rfl (lm_3 T) (by omega)) (by omega) (paf_cons (pf_lst (paf_cons (pf_var 0) paf_nil)) (paf_cons (pf_lamL (T.lam 3) TD (hq := q_3)) paf_nil))))))
abbrev s__law_town : Stmt := top 30
abbrev N__law_town : List PySem.Str := ["_law_script"]
theorem sc__law_town : FnScope N__law_town ["_law_script"] (defScope s__law_town) := ⟨rfl, rfl, rfl, by decide +kernel, rfl, by decide +kernel, by decide +kernel⟩
theorem ok__law_town (T : Txt w K mg base cl) : FnD P w K mg base cl "_law_town" 1 1 L_town := by
    obtain ⟨f, fd, Fn, hm, hb⟩ := T.f__law_town
    unfold L_town
    exact fnd_mk (N := N__law_town) (ps := ["_law_script"]) (k := 0) Fn sc__law_town hb hm fun cdv A outer s H E c0 =>
    (pssf_one (psf_ret (pf_catNew (pf_lst (paf_cons pf_int paf_nil)) (pf_callTy (c_list c0.calm) T.n_list (by decide +kernel) (paf_cons (pf_var 0) paf_nil)))))
abbrev s__law_draw : Stmt := top 31
abbrev N__law_draw : List PySem.Str := ["_law_script", "_law_town_here", "_law_limit", "_law_at", "_law_left", "_law_number"]
theorem sc__law_draw : FnScope N__law_draw ["_law_script", "_law_town_here", "_law_limit"] (defScope s__law_draw) := ⟨rfl, rfl, rfl, by decide +kernel, rfl, by decide +kernel, by decide +kernel⟩
theorem ok__law_draw (T : Txt w K mg base cl) : FnD P w K mg base cl "_law_draw" 3 1 L_draw := by
    obtain ⟨f, fd, Fn, hm, hb⟩ := T.f__law_draw
    unfold L_draw
    exact fnd_mk (N := N__law_draw) (ps := ["_law_script", "_law_town_here", "_law_limit"]) (k := 0) Fn sc__law_draw hb hm fun cdv A outer s H E c0 =>
    (pssf_cons (psf_asg (pf_bin o_add (pf_ix (pf_var 1) pf_int) pf_int) (pg_subL (pf_var 1) pf_int))
    (pssf_cons (psf_if (pt_cmp (o_eq c0.hu) (pf_var 0) (pf_lst paf_nil))
    (pssf_one (psf_ret (pf_bin o_mod (pf_bin o_fdiv (pf_bin o_mul (pf_bin o_mul (pf_ix (pf_var 1) pf_int) (pf_ix (pf_var 1) pf_int)) pf_int) pf_int) (pf_var 2))))
    pssf_nil)
    (pssf_cons (psf_set 3 c0.nd (pf_bin o_mod (pf_ix (pf_var 1) pf_int) (pf_callB c_len T.n_len (by decide +kernel) (paf_cons (pf_var 0) paf_nil))))
    (pssf_cons (psf_set 4 c0.nd (pf_ix (pf_var 1) (pf_bin o_add pf_int (pf_var 3))))
    (pssf_cons (psf_if (PwF.pt (pw_and (pt_cmp o_ge (pf_ix (pf_var 0) (pf_var 3)) (pf_bin o_pow pf_int pf_int)) (pw_and1 (pt_cmp o_gt (pf_var 4) pf_int))))
    (pssf_cons (psf_asg (pf_bin o_fdiv (pf_var 4) (pf_var 2)) (pg_subL (pf_var 1) (pf_bin o_add pf_int (pf_var 3))))
    (pssf_one (psf_ret (pf_bin o_mod (pf_var 4) (pf_var 2)))))
    pssf_nil)
    (pssf_cons (psf_set 5 c0.nd (pf_bin o_mod (pf_bin o_add (pf_ix (pf_var 0) (pf_var 3)) (pf_bin o_mul pf_int (pf_ix (pf_var 1) pf_int))) pf_int))
    (pssf_cons (psf_set 5 c0.nd (pf_bin o_mod (pf_bin o_pow (pf_var 5) pf_int) pf_int))
    (pssf_one (psf_ret (pf_bin o_mod (pf_bin o_fdiv (pf_bin o_mod (pf_bin o_add (pf_bin o_mul (pf_bin o_fdiv (pf_var 5) pf_int) pf_int) (pf_var 5)) pf_int) pf_int) (pf_var 2)))))))))))
abbrev s__law_pick : Stmt := top 32
abbrev N__law_pick : List PySem.Str := ["_law_script", "_law_town_here", "_law_choices"]
theorem sc__law_pick : FnScope N__law_pick ["_law_script", "_law_town_here", "_law_choices"] (defScope s__law_pick) := ⟨rfl, rfl, rfl, by decide +kernel, rfl, by decide +kernel, by decide +kernel⟩
theorem ok__law_pick (T : Txt w K mg base cl) : FnD P w K mg base cl "_law_pick" 3 2 L_pick := by
    obtain ⟨f, fd, Fn, hm, hb⟩ := T.f__law_pick
    unfold L_pick
    exact fnd_mk (N := N__law_pick) (ps := ["_law_script", "_law_town_here", "_law_choices"]) (k := 1) Fn sc__law_pick hb hm fun cdv A outer s H E c0 =>
    (pssf_one (psf_ret (pf_ix (pf_var 2) (pf_call c0 (ok__law_draw T) (by omega) (paf_cons (pf_var 0) (paf_cons (pf_var 1) (paf_cons (pf_callB c_len T.n_len (by decide +kernel) (paf_cons (pf_var 2) paf_nil)) paf_nil)))))))
abbrev s__law_word : Stmt := top 33
abbrev N__law_word : List PySem.Str := ["_law_script", "_law_town_here"]
theorem sc__law_word : FnScope N__law_word ["_law_script", "_law_town_here"] (defScope s__law_word) := ⟨rfl, rfl, rfl, by decide +kernel, rfl, by decide +kernel, by decide +kernel⟩
theorem ok__law_word (T : Txt w K mg base cl) : FnD P w K mg base cl "_law_word" 2 3 L_word := by
    obtain ⟨f, fd, Fn, hm, hb⟩ := T.f__law_word
    unfold L_word
    exact fnd_mk (N := N__law_word) (ps := ["_law_script", "_law_town_here"]) (k := 2) Fn sc__law_word hb hm fun cdv A outer s H E c0 =>
    (pssf_one (psf_ret (pf_ix (pf_str (by decide +kernel)) (pf_call c0 (ok__law_draw T) (by omega) (paf_cons (pf_var 0) (paf_cons (pf_var 1) (paf_cons (pf_call c0 (ok__law_pick T) (by omega) (paf_cons (pf_var 0) (paf_cons (pf_var 1) (paf_cons (pf_lst (paf_cons pf_int (paf_cons pf_int (paf_cons pf_int paf_nil)))) paf_nil)))) paf_nil)))))))
abbrev s__law_simple : Stmt := top 34
abbrev N__law_simple : List PySem.Str := ["_law_script", "_law_town_here", "_law_way", "_law_v", "_law_w"]
theorem sc__law_simple : FnScope N__law_simple ["_law_script", "_law_town_here"] (defScope s__law_simple) := ⟨rfl, rfl, rfl, by decide +kernel, rfl, by decide +kernel, by decide +kernel⟩
theorem ok__law_simple (T : Txt w K mg base cl) : FnD P w K mg base cl "_law_simple" 2 4 L_simple := by
    obtain ⟨f, fd, Fn, hm, hb⟩ := T.f__law_simple
    unfold L_simple
    exact fnd_mk (N := N__law_simple) (ps := ["_law_script", "_law_town_here"]) (k := 3) Fn sc__law_simple hb hm fun cdv A outer s H E c0 =>
    (pssf_cons (psf_par3 2 3 4 c0.calm c0.nd (paf_cons (pf_call c0 (ok__law_draw T) (by omega) (paf_cons (pf_var 0) (paf_cons (pf_var 1) (paf_cons pf_int paf_nil)))) (paf_cons (pf_call c0 (ok__law_word T) (by omega) (paf_cons (pf_var 0) (paf_cons (pf_var 1) paf_nil))) (paf_cons (pf_call c0 (ok__law_word T) (by omega) (paf_cons (pf_var 0) (paf_cons (pf_var 1) paf_nil))) paf_nil))))
    (pssf_cons (psf_if (pt_cmp o_lt (pf_var 2) pf_int)
    (pssf_one (psf_ret (pf_tup (paf_cons (pf_str (by decide +kernel)) (paf_cons (pf_bin o_add (pf_bin o_add (pf_var 3) (pf_var 4)) (pf_call c0 (ok__law_pick T) (by omega) (paf_cons (pf_var 0) (paf_cons (pf_var 1) (paf_cons (pf_lst (paf_cons (pf_str (by decide +kernel)) (paf_cons (pf_call c0 (ok__law_word T) (by omega) (paf_cons (pf_var 0) (paf_cons (pf_var 1) paf_nil))) paf_nil))) paf_nil))))) paf_nil)))))
    pssf_nil)
    (pssf_cons (psf_if (pt_cmp o_lt (pf_var 2) pf_int)
    (pssf_one (psf_ret (pf_tup (paf_cons (pf_ix (pf_tup (paf_cons (pf_str (by decide +kernel)) (paf_cons (pf_str (by decide +kernel)) paf_nil))) (pf_bin o_sub (pf_var 2) pf_int)) (paf_cons (pf_var 3) (paf_cons (pf_var 4) (paf_cons (pf_call c0 (ok__law_draw T) (by omega) (paf_cons (pf_var 0) (paf_cons (pf_var 1) (paf_cons pf_int paf_nil)))) paf_nil)))))))
    pssf_nil)
    (pssf_cons (psf_if (pt_cmp (o_eq c0.hu) (pf_var 2) pf_int)
    (pssf_one (psf_ret (pf_tup (paf_cons (pf_str (by decide +kernel)) (paf_cons (pf_var 3) (paf_cons (pf_bin o_add pf_int (pf_call c0 (ok__law_draw T) (by omega) (paf_cons (pf_var 0) (paf_cons (pf_var 1) (paf_cons pf_int paf_nil))))) paf_nil))))))
    pssf_nil)
    (pssf_one (psf_ret (pf_tup (paf_cons (pf_ix (pf_tup (paf_cons (pf_str (by decide +kernel)) (paf_cons (pf_str (by decide +kernel)) (paf_cons (pf_str (by decide +kernel)) paf_nil)))) (pf_call c0 (ok__law_draw T) (by omega) (paf_cons (pf_var 0) (paf_cons (pf_var 1) (paf_cons pf_int paf_nil))))) (paf_cons (pf_var 3) paf_nil)))))))))
abbrev s__law_question : Stmt := top 35
abbrev N__law_question : List PySem.Str := ["_law_script", "_law_town_here", "_law_deep", "_law_way", "_law_name"]
theorem sc__law_question : FnScope N__law_question ["_law_script", "_law_town_here", "_law_deep"] (defScope s__law_question) := ⟨rfl, rfl, rfl, by decide +kernel, rfl, by decide +kernel, by decide +kernel⟩
theorem okn__law_question (T : Txt w K mg base cl) : ∀ n : Nat, FnD P w K mg base cl "_law_question" 3 (4 + n) (L_question n)
  | 0 => by
    obtain ⟨f, fd, Fn, hm, hb⟩ := T.f__law_question
    unfold L_question
    exact (fnd_un hm Fn.kp hb).mono (Nat.zero_le _)
  | n + 1 => by
    have ih := okn__law_question T n
    obtain ⟨f, fd, Fn, hm, hb⟩ := T.f__law_question
    unfold L_question
    exact fnd_mk (N := N__law_question) (ps := ["_law_script", "_law_town_here", "_law_deep"]) (k := 4 + n) Fn sc__law_question hb hm fun cdv A outer s H E c0 =>
    (pssf_cons (psf_set 3 c0.nd (pf_call c0 (ok__law_draw T) (by omega) (paf_cons (pf_var 0) (paf_cons (pf_var 1) (paf_cons pf_int paf_nil)))))
    (pssf_cons (psf_if (PwF.pt (pw_or (pt_cmp (o_eq c0.hu) (pf_var 2) pf_int) (pw_or1 (pt_cmp (o_eq c0.hu) (pf_var 3) pf_int))))
    (pssf_one (psf_ret (pf_call c0 (ok__law_simple T) (by omega) (paf_cons (pf_var 0) (paf_cons (pf_var 1) paf_nil)))))
    pssf_nil)
    (pssf_cons (psf_if (pt_cmp (o_eq c0.hu) (pf_var 3) pf_int)
    (pssf_one (psf_ret (pf_tup (paf_cons (pf_str (by decide +kernel)) (paf_cons (pf_call c0 ih (by omega) (paf_cons (pf_var 0) (paf_cons (pf_var 1) (paf_cons (pf_bin o_sub (pf_var 2) pf_int) paf_nil)))) paf_nil)))))
    pssf_nil)
    (pssf_cons (psf_set 4 c0.nd (pf_ix (pf_tup (paf_cons (pf_str (by decide +kernel)) (paf_cons (pf_str (by decide +kernel)) paf_nil))) (pf_call c0 (ok__law_draw T) (by omega) (paf_cons (pf_var 0) (paf_cons (pf_var 1) (paf_cons pf_int paf_nil))))))
    (pssf_one (psf_ret (pf_tup (paf_cons (pf_var 4) (paf_cons (pf_call c0 ih (by omega) (paf_cons (pf_var 0) (paf_cons (pf_var 1) (paf_cons (pf_bin o_sub (pf_var 2) pf_int) paf_nil)))) (paf_cons (pf_call c0 ih (by omega) (paf_cons (pf_var 0) (paf_cons (pf_var 1) (paf_cons (pf_bin o_sub (pf_var 2) pf_int) paf_nil)))) paf_nil))))))))))
theorem okq__law_question (T : Txt w K mg base cl) : FnD P w K mg base cl "_law_question" 3 9 (L_question fuel) := by
  rw [fuel_eq]
  exact okn__law_question T 5
abbrev s__law_finds : Stmt := top 36
abbrev N__law_finds : List PySem.Str := ["_law_question_here", "_law_text", "_law_places", "_law_others", "_law_place", "_law_name", "_law_parts", "_law_some", "_law_wide", "_law_part", "_law_k"]
theorem sc__law_finds : FnScope N__law_finds ["_law_question_here", "_law_text"] (defScope s__law_finds) := ⟨rfl, rfl, rfl, by decide +kernel, rfl, by decide +kernel, by decide +kernel⟩
theorem okn__law_finds (T : Txt w K mg base cl) : ∀ n : Nat, FnD P w K mg base cl "_law_finds" 2 (0 + n) (L_finds n)
  | 0 => by
    obtain ⟨f, fd, Fn, hm, hb⟩ := T.f__law_finds
    unfold L_finds
    exact (fnd_un hm Fn.kp hb).mono (Nat.zero_le _)
  | n + 1 => by
    have ih := okn__law_finds T n
    obtain ⟨f, fd, Fn, hm, hb⟩ := T.f__law_finds
    unfold L_finds
    exact fnd_mk (N := N__law_finds) (ps := ["_law_question_here", "_law_text"]) (k := 0 + n) Fn sc__law_finds hb hm fun cdv A outer s H E c0 =>
    (pssf_cons (psf_asg (pf_tup (paf_cons (pf_ix (pf_var 0) pf_int) (paf_cons (pf_slice (pf_var 0) (pof_some pf_int) pof_none) paf_nil))) (pg_tp c0.calm (pgsf_cons (pg_nm 5 c0.nd) (pgsf_cons (pg_nm 6 c0.nd) pgsf_nil))))
    (pssf_cons (psf_if (pt_cmp (o_in c0.hu) (pf_var 5) (pf_tup (paf_cons (pf_str (by decide +kernel)) (paf_cons (pf_str (by decide +kernel)) (paf_cons (pf_str (by decide +kernel)) paf_nil)))))
    (pssf_cons (ps_setcomp 7 c0.calm c0.nd (pi_val (pf_var 6)) (blkOk_by (own := [("_law_part", 9)]) (N := N__law_finds) (sc := defScope s__law_finds) (by decide +kernel)) (fun _ _ _ _ _ => (pg_nm 9 c0.blk.nd)) (fun _ _ _ _ _ => pts_no) (fun _ _ _ _ _ => (pf_call c0.blk ih (by omega) (paf_cons (pf_var 9) (paf_cons (pf_var 1) paf_nil)))) (sw_true rfl rfl rfl (by decide +kernel)))
    (pssf_one (psf_ret (pf_pick c0 (pp_cons (by decide +kernel) (pf_not (pf_ix (pf_var 7) pf_int)) (pp_cons (by decide +kernel) (pf_cmp (o_notIn c0.hu) pf_bl (pf_var 7)) (pp_cons (by decide +kernel) (pf_cmp (o_in c0.hu) pf_bl (pf_var 7)) pp_nil))) (pf_var 5)))))
    pssf_nil)
    (pssf_cons (ps_setcomp 2 c0.calm c0.nd (pi_rng1 (pf_callB c_len T.n_len (by decide +kernel) (paf_cons (pf_var 1) paf_nil)) T.n_range) (blkOk_by (own := [("_law_place", 4)]) (N := N__law_finds) (sc := defScope s__law_finds) (by decide +kernel)) (fun _ _ _ _ _ => (pg_nm 4 c0.blk.nd)) (fun _ _ _ _ _ => (pts_if (pt_cmp (o_eq c0.blk.hu) (pf_ix (pf_var 1) (pf_var 4)) (pf_ix (pf_var 6) pf_int)))) (fun _ _ _ _ _ => (pf_var 4)) (sw_true rfl rfl rfl (by decide +kernel)))
    (pssf_cons (psf_if (pt_cmp (o_eq c0.hu) (pf_var 5) (pf_str (by decide +kernel)))
    (pssf_one (psf_ret (pf_cmp o_ge (pf_callB c_len T.n_len (by decide +kernel) (paf_cons (pf_var 2) paf_nil)) (pf_ix (pf_var 6) pf_int))))
    pssf_nil)
    (pssf_cons (psf_if (pt_cmp (o_eq c0.hu) (pf_var 5) (pf_str (by decide +kernel)))
    (pssf_one (psf_ret (pf_cmp (o_ne c0.hu) (pf_comp c0.calm c0.nd (pi_rng1 (pf_callB c_len T.n_len (by decide +kernel) (paf_cons (pf_var 1) paf_nil)) T.n_range) (blkOk_by (own := [("_law_k", 10)]) (N := N__law_finds) (sc := defScope s__law_finds) (by decide +kernel)) (fun _ _ _ _ _ => (pg_nm 10 c0.blk.nd)) (fun _ _ _ _ _ => (pts_if (pt_cmp (o_eq c0.blk.hu) (pf_slice (pf_var 1) (pof_some (pf_var 10)) (pof_some (pf_bin o_add (pf_var 10) (pf_callB c_len T.n_len (by decide +kernel) (paf_cons (pf_ix (pf_var 6) pf_int) paf_nil))))) (pf_ix (pf_var 6) pf_int)))) (fun _ _ _ _ _ => (pf_var 10))) (pf_lst paf_nil))))
    pssf_nil)
    (pssf_cons (psf_if (PwF.pt (pw_or (pt_cmp (o_eq c0.hu) (pf_var 5) (pf_str (by decide +kernel))) (pw_or1 (pt_cmp (o_eq c0.hu) (pf_var 5) (pf_str (by decide +kernel))))))
    (pssf_one (psf_ret (pf_and (pf_cmp o_gt (pf_callB c_len T.n_len (by decide +kernel) (paf_cons (pf_var 1) paf_nil)) pf_int) (pf_one (pf_cmp (o_eq c0.hu) (pf_ix (pf_var 1) (pf_if (pt_cmp (o_eq c0.hu) (pf_var 5) (pf_str (by decide +kernel))) pf_int (pf_bin o_sub (pf_callB c_len T.n_len (by decide +kernel) (paf_cons (pf_var 1) paf_nil)) pf_int))) (pf_ix (pf_var 6) pf_int))))))
    pssf_nil)
    (pssf_cons (psf_if (pt_cmp (o_eq c0.hu) (pf_var 5) (pf_str (by decide +kernel)))
    (pssf_one (psf_ret (pf_cmp (o_ne c0.hu) (pf_var 2) (pf_lst paf_nil))))
    pssf_nil)
    (pssf_cons (ps_setcomp 3 c0.calm c0.nd (pi_rng1 (pf_callB c_len T.n_len (by decide +kernel) (paf_cons (pf_var 1) paf_nil)) T.n_range) (blkOk_by (own := [("_law_place", 4)]) (N := N__law_finds) (sc := defScope s__law_finds) (by decide +kernel)) (fun _ _ _ _ _ => (pg_nm 4 c0.blk.nd)) (fun _ _ _ _ _ => (pts_if (pt_cmp (o_eq c0.blk.hu) (pf_ix (pf_var 1) (pf_var 4)) (pf_ix (pf_var 6) pf_int)))) (fun _ _ _ _ _ => (pf_var 4)) (sw_true rfl rfl rfl (by decide +kernel)))
    (pssf_cons (psf_for c0.own c0.calm (pi_val (pf_var 2)) (pg_nm 4 c0.nd)
    (pssf_cons (psf_set 8 c0.nd (pf_bin o_add (pf_ix (pf_var 6) pf_int) pf_int))
    (pssf_one (psf_if (pt_cmp (o_ne c0.hu) (pf_comp c0.calm c0.nd (pi_val (pf_var 3)) (blkOk_by (own := [("_law_k", 10)]) (N := N__law_finds) (sc := defScope s__law_finds) (by decide +kernel)) (fun _ _ _ _ _ => (pg_nm 10 c0.blk.nd)) (fun _ _ _ _ _ => (pts_if (PwF.pt (pw_or (pt_chain o_lt o_le pf_int (pf_bin o_sub (pf_var 10) (pf_var 4)) (pf_var 8)) (pw_or1 (PwF.pt (pw_and (pt_cmp (o_eq c0.blk.hu) (pf_var 5) (pf_str (by decide +kernel))) (pw_and1 (pt_chain o_lt o_le pf_int (pf_bin o_sub (pf_var 4) (pf_var 10)) (pf_var 8)))))))))) (fun _ _ _ _ _ => (pf_var 10))) (pf_lst paf_nil))
    (pssf_one (psf_ret pf_bl))
    pssf_nil))))
    (pssf_one (psf_ret pf_bl)))))))))))
theorem okq__law_finds (T : Txt w K mg base cl) : FnD P w K mg base cl "_law_finds" 2 5 (L_finds fuel) := by
  rw [fuel_eq]
  exact okn__law_finds T 5
abbrev s__law_texts : Stmt := top 37
abbrev N__law_texts : List PySem.Str := ["_law_most", "_law_size", "_law_found", "_law_level", "_law_later", "_law_text", "_law_word_here"]
theorem sc__law_texts : FnScope N__law_texts ["_law_most"] (defScope s__law_texts) := ⟨rfl, rfl, rfl, by decide +kernel, rfl, by decide +kernel, by decide +kernel⟩
theorem ok__law_texts (T : Txt w K mg base cl) : FnD P w K mg base cl "_law_texts" 1 1 L_texts := by
    obtain ⟨f, fd, Fn, hm, hb⟩ := T.f__law_texts
    unfold L_texts
    exact fnd_mk (N := N__law_texts) (ps := ["_law_most"]) (k := 0) Fn sc__law_texts hb hm fun cdv A outer s H E c0 =>
    (pssf_cons (psf_par2 2 3 c0.calm c0.nd (paf_cons (pf_lst (paf_cons (pf_str (by decide +kernel)) paf_nil)) (paf_cons (pf_lst (paf_cons (pf_str (by decide +kernel)) paf_nil)) paf_nil)))
    (pssf_cons (psf_for c0.own c0.calm (pi_rng1 (pf_var 0) T.n_range) (pg_nm 1 c0.nd)
    (pssf_cons (psf_set 4 c0.nd (pf_lst paf_nil))
    (pssf_cons (psf_for c0.own c0.calm (pi_val (pf_var 3)) (pg_nm 5 c0.nd)
    (pssf_one (psf_set 4 c0.nd (pf_bin o_add (pf_var 4) (pf_comp c0.calm c0.nd (pi_val (pf_str (by decide +kernel))) (blkOk_by (own := [("_law_word_here", 6)]) (N := N__law_texts) (sc := defScope s__law_texts) (by decide +kernel)) (fun _ _ _ _ _ => (pg_nm 6 c0.blk.nd)) (fun _ _ _ _ _ => pts_no) (fun _ _ _ _ _ => (pf_bin o_add (pf_var 5) (pf_var 6))))))))
    (pssf_cons (psf_set 3 c0.nd (pf_var 4))
    (pssf_one (psf_set 2 c0.nd (pf_bin o_add (pf_var 2) (pf_var 3))))))))
    (pssf_one (psf_ret (pf_var 2)))))
abbrev s_law : Stmt := top 38
abbrev N_law : List PySem.Str := ["_law_script", "_law_town_here", "_law_question_here", "_law_texts_here", "_law_good", "_law_size", "_law_whole", "_law_step", "_law_other", "_law_word_here", "_law_both", "_law_one", "_law_needed", "_law_useless", "_law_without", "_law_text"]
theorem sc_law : FnScope N_law ["_law_script"] (defScope s_law) := ⟨rfl, rfl, rfl, by decide +kernel, rfl, by decide +kernel, by decide +kernel⟩
theorem okf_law (T : Txt w K mg base cl) {f : Addr} {fd : FuncData} (Fn : Fun K "law" "law" (top 38) f fd) : FnOk P w K mg base (L2.CX P w) 12 f fd ["_law_script"] (spF ⟨P, w, K, cl⟩ cl 1 L_law) := by
  unfold L_law
  exact fnok_mk (N := N_law) (ps := ["_law_script"]) (k := 11) Fn sc_law fun cdv A outer s H E c0 =>
    (pssf_cons (psf_set 1 c0.nd (pf_call c0 (ok__law_town T) (by omega) (paf_cons (pf_var 0) paf_nil)))
    (pssf_cons (psf_set 2 c0.nd (pf_call c0 (okq__law_question T) (by omega) (paf_cons (pf_var 0) (paf_cons (pf_var 1) (paf_cons pf_int paf_nil)))))
    (pssf_cons (psf_set 3 c0.nd (pf_call c0 (ok__law_texts T) (by omega) (paf_cons pf_int paf_nil)))
    (pssf_cons (ps_setcomp 4 c0.calm c0.nd (pi_val (pf_var 3)) (blkOk_by (own := [("_law_text", 15)]) (N := N_law) (sc := defScope s_law) (by decide +kernel)) (fun _ _ _ _ _ => (pg_nm 15 c0.blk.nd)) (fun _ _ _ _ _ => (pts_if (pt_of (pf_call c0.blk (okq__law_finds T) (by omega) (paf_cons (pf_var 2) (paf_cons (pf_var 15) paf_nil)))))) (fun _ _ _ _ _ => (pf_var 15)) (sw_true rfl rfl rfl (by decide +kernel)))
    (pssf_cons (psf_for c0.own c0.calm (pi_rng1 pf_int T.n_range) (pg_nm 5 c0.nd)
    (pssf_one (psf_if (pt_cmp (o_ne c0.hu) (pf_call c0 (ok_count_found T) (by omega) (paf_cons (pf_var 2) (paf_cons (pf_var 5) paf_nil))) (pf_callB c_len T.n_len (by decide +kernel) (paf_cons (pf_comp c0.calm c0.nd (pi_val (pf_var 4)) (blkOk_by (own := [("_law_text", 15)]) (N := N_law) (sc := defScope s_law) (by decide +kernel)) (fun _ _ _ _ _ => (pg_nm 15 c0.blk.nd)) (fun _ _ _ _ _ => (pts_if (pt_cmp (o_eq c0.blk.hu) (pf_callB c_len T.n_len (by decide +kernel) (paf_cons (pf_var 15) paf_nil)) (pf_var 5)))) (fun _ _ _ _ _ => (pf_var 15))) paf_nil)))
    (pssf_one (psf_ret pf_bl))
    pssf_nil)))
    (pssf_cons (psf_set 5 c0.nd (pf_call c0 (ok__law_draw T) (by omega) (paf_cons (pf_var 0) (paf_cons (pf_var 1) (paf_cons pf_int paf_nil)))))
    (pssf_cons (psf_set 6 c0.nd pf_int)
    (pssf_cons (psf_for c0.own c0.calm (pi_rng1 (pf_var 5) T.n_range) (pg_nm 7 c0.nd)
    (pssf_one (psf_set 6 c0.nd (pf_bin o_mul (pf_var 6) pf_int))))
    (pssf_cons (psf_if (pt_cmp (o_ne c0.hu) (pf_bin o_add (pf_call c0 (ok_count_found T) (by omega) (paf_cons (pf_var 2) (paf_cons (pf_var 5) paf_nil))) (pf_call c0 (ok_count_found T) (by omega) (paf_cons (pf_tup (paf_cons (pf_str (by decide +kernel)) (paf_cons (pf_var 2) paf_nil))) (paf_cons (pf_var 5) paf_nil)))) (pf_var 6))
    (pssf_one (psf_ret pf_bl))
    pssf_nil)
    (pssf_cons (psf_set 8 c0.nd (pf_call c0 (okq__law_question T) (by omega) (paf_cons (pf_var 0) (paf_cons (pf_var 1) (paf_cons pf_int paf_nil)))))
    (pssf_cons (psf_par2 10 11 c0.calm c0.nd (paf_cons (pf_call c0 (ok_count_found T) (by omega) (paf_cons (pf_tup (paf_cons (pf_str (by decide +kernel)) (paf_cons (pf_var 2) (paf_cons (pf_var 8) paf_nil)))) (paf_cons (pf_var 5) paf_nil))) (paf_cons (pf_call c0 (ok_count_found T) (by omega) (paf_cons (pf_tup (paf_cons (pf_str (by decide +kernel)) (paf_cons (pf_var 2) (paf_cons (pf_var 8) paf_nil)))) (paf_cons (pf_var 5) paf_nil))) paf_nil)))
    (pssf_cons (psf_if (pt_cmp (o_ne c0.hu) (pf_bin o_add (pf_var 10) (pf_var 11)) (pf_bin o_add (pf_call c0 (ok_count_found T) (by omega) (paf_cons (pf_var 2) (paf_cons (pf_var 5) paf_nil))) (pf_call c0 (ok_count_found T) (by omega) (paf_cons (pf_var 8) (paf_cons (pf_var 5) paf_nil)))))
    (pssf_one (psf_ret pf_bl))
    pssf_nil)
    (pssf_cons (psf_if (PwF.pt (pw_and (pt_of (pf_call c0 (ok_is_within T) (by omega) (paf_cons (pf_var 2) (paf_cons (pf_var 8) paf_nil)))) (pw_and1 (pt_cmp o_gt (pf_call c0 (ok_count_found T) (by omega) (paf_cons (pf_var 2) (paf_cons (pf_var 5) paf_nil))) (pf_call c0 (ok_count_found T) (by omega) (paf_cons (pf_var 8) (paf_cons (pf_var 5) paf_nil)))))))
    (pssf_one (psf_ret pf_bl))
    pssf_nil)
    (pssf_cons (psf_par2 12 13 c0.calm c0.nd (paf_cons (pf_call c0 (ok_needed_words T) (by omega) (paf_cons (pf_var 2) paf_nil)) (paf_cons (pf_call c0 (ok_useless_words T) (by omega) (paf_cons (pf_var 2) paf_nil)) paf_nil)))
    (pssf_cons (psf_for c0.own c0.calm (pi_val (pf_str (by decide +kernel))) (pg_nm 9 c0.nd)
    (pssf_cons (psf_set 14 c0.nd (pf_tup (paf_cons (pf_str (by decide +kernel)) (paf_cons (pf_var 2) (paf_cons (pf_tup (paf_cons (pf_str (by decide +kernel)) (paf_cons (pf_tup (paf_cons (pf_str (by decide +kernel)) (paf_cons (pf_var 9) paf_nil))) paf_nil))) paf_nil)))))
    (pssf_cons (psf_if (PwF.pt (pw_or (pt_cmp (o_ne c0.hu) (pf_cmp (o_in c0.hu) (pf_var 9) (pf_var 12)) (pf_isN (pf_call c0 (ok_first_found T) (by omega) (paf_cons (pf_var 14) paf_nil)))) (pw_or1 (pt_cmp (o_ne c0.hu) (pf_callTy (c_list c0.calm) T.n_list (by decide +kernel) (paf_cons (pf_var 12) paf_nil)) (pf_sortset c0.calm (pf_var 12) (by decide +kernel) T.n_sorted (by decide +kernel) T.n_set)))))
    (pssf_one (psf_ret pf_bl))
    pssf_nil)
    (pssf_cons (psf_if (pt_cmp (o_ne c0.hu) (pf_cmp (o_in c0.hu) (pf_var 9) (pf_var 13)) (pf_isN (pf_call c0 (ok_first_found T) (by omega) (paf_cons (pf_tup (paf_cons (pf_str (by decide +kernel)) (paf_cons (pf_var 2) (paf_cons (pf_tup (paf_cons (pf_str (by decide +kernel)) (paf_cons (pf_var 9) paf_nil))) paf_nil)))) paf_nil))))
    (pssf_one (psf_ret pf_bl))
    pssf_nil)
    (pssf_cons (psf_if (PwF.pt (pw_and (pt_cmp (o_in c0.hu) (pf_var 9) (pf_var 12)) (pw_and1 (pt_cmp (o_ne c0.hu) (pf_comp c0.calm c0.nd (pi_val (pf_var 4)) (blkOk_by (own := [("_law_text", 15)]) (N := N_law) (sc := defScope s_law) (by decide +kernel)) (fun _ _ _ _ _ => (pg_nm 15 c0.blk.nd)) (fun _ _ _ _ _ => (pts_if (pt_cmp (o_notIn c0.blk.hu) (pf_var 9) (pf_var 15)))) (fun _ _ _ _ _ => (pf_var 15))) (pf_lst paf_nil)))))
    (pssf_one (psf_ret pf_bl))
    pssf_nil)
    (pssf_one (psf_if (PwF.pt (pw_and (pt_cmp (o_in c0.hu) (pf_var 9) (pf_var 13)) (pw_and1 (pt_cmp (o_ne c0.hu) (pf_comp c0.calm c0.nd (pi_val (pf_var 4)) (blkOk_by (own := [("_law_text", 15)]) (N := N_law) (sc := defScope s_law) (by decide +kernel)) (fun _ _ _ _ _ => (pg_nm 15 c0.blk.nd)) (fun _ _ _ _ _ => (pts_if (pt_cmp (o_in c0.blk.hu) (pf_var 9) (pf_var 15)))) (fun _ _ _ _ _ => (pf_var 15))) (pf_lst paf_nil)))))
    (pssf_one (psf_ret pf_bl))
    pssf_nil)))))))
    (pssf_one (psf_ret (pf_and (pf_cmp (o_eq c0.hu) (pf_callTy (c_list c0.calm) T.n_list (by decide +kernel) (paf_cons (pf_var 13) paf_nil)) (pf_sortset c0.calm (pf_var 13) (by decide +kernel) T.n_sorted (by decide +kernel) T.n_set)) (pf_one (pf_cmp (o_eq c0.hu) (pf_isN (pf_call c0 (ok_first_found T) (by omega) (paf_cons (pf_var 2) paf_nil))) (pf_cmp (o_eq c0.hu) (pf_bin o_add (pf_var 12) (pf_var 13)) (pf_str (by decide +kernel)))))))))))))))))))))))
end
end WF

set_option linter.all false
set_option maxRecDepth 100000
/-! # MQ0: questions, in plain Lean -/
namespace WF
/-- a sign of the words -/
def okc (c : Nat) : Prop := c = 97 ∨ c = 98 ∨ c = 99 ∨ c = 100
/-- a text of the words -/
def okt (t : Cs) : Prop := ∀ c ∈ t, okc c
/-- the words -/
def Okc (c : Nat) : Bool := c == 97 || c == 98 || c == 99 || c == 100
theorem Okc_iff {c : Nat} : Okc c = true ↔ okc c := by simp [Okc, okc, or_assoc]
abbrev sWord : Cs := [119, 111, 114, 100]
abbrev sBegin : Cs := [98, 101, 103, 105, 110]
abbrev sEnd : Cs := [101, 110, 100]
abbrev sRow : Cs := [114, 111, 119]
abbrev sNear : Cs := [110, 101, 97, 114]
abbrev sBefore : Cs := [98, 101, 102, 111, 114, 101]
abbrev sOften : Cs := [111, 102, 116, 101, 110]
abbrev sNot : Cs := [110, 111, 116]
abbrev sAnd : Cs := [97, 110, 100]
abbrev sOr : Cs := [111, 114]
inductive Q where
  | word (c : Nat)
  | begin (c : Nat)
  | end_ (c : Nat)
  | row (s : Cs)
  | near (v w : Nat) (g : Nat)
  | before (v w : Nat) (g : Nat)
  | often (c : Nat) (n : Nat)
  | not (p : Q)
  | and (p q : Q)
  | or (p q : Q)
def Q.enc : Q → D
  | .word c => .tup [.str sWord, .str [c]]
  | .begin c => .tup [.str sBegin, .str [c]]
  | .end_ c => .tup [.str sEnd, .str [c]]
  | .row s => .tup [.str sRow, .str s]
  | .near v w g => .tup [.str sNear, .str [v], .str [w], .int g]
  | .before v w g => .tup [.str sBefore, .str [v], .str [w], .int g]
  | .often c n => .tup [.str sOften, .str [c], .int n]
  | .not p => .tup [.str sNot, p.enc]
  | .and p q => .tup [.str sAnd, p.enc, q.enc]
  | .or p q => .tup [.str sOr, p.enc, q.enc]
def Q.depth : Q → Nat
  | .not p => p.depth + 1
  | .and p q => max p.depth q.depth + 1
  | .or p q => max p.depth q.depth + 1
  | _ => 1
/-- what the program takes for a question, but for its depth -/
def Q.wf : Q → Prop
  | .word c | .begin c | .end_ c => okc c
  | .row s => (∀ c ∈ s, okc c) ∧ 2 ≤ s.length ∧ s.length ≤ 3
  | .near v w g => okc v ∧ okc w ∧ g ≤ 2
  | .before v w g => okc v ∧ okc w ∧ g ≤ 2
  | .often c n => okc c ∧ 2 ≤ n ∧ n ≤ 3
  | .not p => p.wf
  | .and p q => p.wf ∧ q.wf
  | .or p q => p.wf ∧ q.wf
def Q.simple : Q → Prop
  | .not _ | .and _ _ | .or _ _ => False
  | _ => True
theorem Q.depth_pos (q : Q) : 1 ≤ q.depth := by cases q <;> simp [Q.depth]
theorem Q.simple_depth {q : Q} (h : q.simple) : q.depth = 1 := by cases q <;> first | rfl | exact h.elim
end WF


set_option linter.all false
set_option maxRecDepth 100000
/-! # MWp: weakest conditions for denotations -/
namespace WF
section
variable {α β : Type}
def Wp (r : Res α) (P : α → Store → Prop) (E : Nat → Store → Prop) : Prop := match r with
  | .ok a S => P a S
  | .ex c S => E c S
  | .un => False
variable {P : α → Store → Prop} {E : Nat → Store → Prop}
theorem Wp.imp {r : Res α} {P' : α → Store → Prop} (h : Wp r P E) (f : ∀ a S, P a S → P' a S) : Wp r P' E := by
  cases r with
  | ok a S => exact f a S h
  | ex c S => exact h
  | un => exact h
theorem Wp.exc {r : Res α} {E' : Nat → Store → Prop} (h : Wp r P E) (f : ∀ c S, E c S → E' c S) : Wp r P E' := by
  cases r with
  | ok a S => exact h
  | ex c S => exact f c S h
  | un => exact h
theorem wp_eq {r : Res α} {a : α} {S : Store} (h : r = .ok a S) (q : P a S) : Wp r P E := by rw [h]; exact q
theorem wp_eqx {r : Res α} {c : Nat} {S : Store} (h : r = .ex c S) (q : E c S) : Wp r P E := by rw [h]; exact q
theorem Wp.ex {r : Res α} (h : Wp r P fun _ _ => False) : ∃ a S, r = .ok a S ∧ P a S := by
  cases r with
  | ok a S => exact ⟨a, S, rfl, h⟩
  | ex c S => exact h.elim
  | un => exact h.elim
theorem wp_bind {r : Res β} {f : β → Store → Res α} (h : Wp r (fun a S => Wp (f a S) P E) E) : Wp (r.bind f) P E := by
  cases r <;> exact h
theorem wp_noex {r : Res α} (h : Wp r P fun _ _ => False) : Wp r.noex P E := by
  cases r with
  | ok a S => exact h
  | ex c S => exact h.elim
  | un => exact h.elim
end
section
variable {P : D → Store → Prop} {PL : List D → Store → Prop} {PB : Bool → Store → Prop} {PC : Ctl → Store → Prop} {PG : Env → Store → Prop} {PI : List D × Option Live → Store → Prop} {PO : Option Int → Store → Prop} {E : Nat → Store → Prop} {ρ : Env} {S : Store} {a b c : FE} {t u : FT} {F G : FS}
theorem w_var {i : Nat} {d : D} (h : ρ[i]? = some (some d)) (q : P d S) : Wp (dVar i ρ S) P E := wp_eq (by unfold dVar; rw [h]) q
theorem w_c {d : D} (q : P d S) : Wp (dC d ρ S) P E := q
theorem w_un {g : D → M D} (h : Wp (a ρ S) (fun x S1 => Wp (g x S1) P E) E) : Wp (dUn g a ρ S) P E := wp_bind h
theorem w_bin {g : D → D → M D} (h : Wp (a ρ S) (fun x S1 => Wp (b ρ S1) (fun y S2 => Wp (g x y S2) P E) E) E) : Wp (dBin g a b ρ S) P E := wp_bind (h.imp fun _ _ h => wp_bind h)
theorem w_strM {g : D → D → M D} (h : Wp (a ρ S) (fun x S1 => ∃ s, x = .str s ∧ Wp (b ρ S1) (fun y S2 => Wp (g (.str s) y S2) P E) E) E) : Wp (dStrM g a b ρ S) P E :=
  wp_bind (h.imp fun x _ ⟨s, e, h⟩ => by subst e; exact wp_bind h)
theorem w_and (h : Wp (a ρ S) (fun x S1 => ∃ k, x = .bl k ∧ (k = true → Wp (b ρ S1) P E) ∧ (k = false → P (.bl false) S1)) E) : Wp (dAnd a b ρ S) P E :=
  wp_bind (h.imp fun x _ ⟨k, e, h1, h2⟩ => by
    subst e
    cases k with
    | true => exact h1 rfl
    | false => exact h2 rfl)
theorem w_or (h : Wp (a ρ S) (fun x S1 => ∃ k, x = .bl k ∧ (k = false → Wp (b ρ S1) P E) ∧ (k = true → P (.bl true) S1)) E) : Wp (dOr a b ρ S) P E :=
  wp_bind (h.imp fun x _ ⟨k, e, h1, h2⟩ => by
    subst e
    cases k with
    | false => exact h1 rfl
    | true => exact h2 rfl)
theorem w_not (h : Wp (a ρ S) (fun x S1 => ∃ k, x = .bl k ∧ P (.bl (!k)) S1) E) : Wp (dNot a ρ S) P E :=
  wp_bind (h.imp fun x _ ⟨k, e, h⟩ => by subst e; exact h)
theorem w_ite (h : Wp (t ρ S) (fun k S1 => (k = true → Wp (a ρ S1) P E) ∧ (k = false → Wp (b ρ S1) P E)) E) : Wp (dIf t a b ρ S) P E :=
  wp_bind (h.imp fun k _ h => by
    cases k with
    | true => exact h.1 rfl
    | false => exact h.2 rfl)
theorem w_chain {g g' : D → D → M D} (h : Wp (a ρ S) (fun x S1 => Wp (b ρ S1) (fun y S2 => Wp (g x y S2) (fun z S3 => ∃ k, z = .bl k ∧ (k = true → Wp (c ρ S3) (fun u S4 => Wp (g' y u S4) P E) E) ∧ (k = false → P (.bl false) S3)) E) E) E) : Wp (dChain g g' a b c ρ S) P E :=
  wp_bind (h.imp fun _ _ h => wp_bind (h.imp fun _ _ h => wp_bind (h.imp fun z _ ⟨k, e, h1, h2⟩ => by
    subst e
    cases k with
    | true => exact wp_bind (h1 rfl)
    | false => exact h2 rfl)))
theorem w_all0 (h : PL [] S) : Wp (evalAll [] ρ S) PL E := h
theorem w_all1 {r : List FE} (h : Wp (a ρ S) (fun x S1 => Wp (evalAll r ρ S1) (fun xs S2 => PL (x :: xs) S2) E) E) : Wp (evalAll (a :: r) ρ S) PL E := wp_bind (h.imp fun _ _ h => wp_bind h)
theorem w_tup {r : List FE} (h : Wp (evalAll r ρ S) (fun xs S1 => P (.tup xs) S1) E) : Wp (dTup r ρ S) P E := wp_bind h
theorem w_lst {r : List FE} (h : Wp (evalAll r ρ S) (fun xs S1 => P (.lst xs) S1) E) : Wp (dLst r ρ S) P E := wp_bind h
theorem w_call {f : FF} {r : List FE} (h : Wp (evalAll r ρ S) (fun xs S1 => Wp (f xs S1) P E) E) : Wp (dCall f r ρ S) P E := wp_bind h
theorem w_f1 {g : D → M D} {x : D} (h : Wp (g x S) P E) : Wp (f1 g [x] S) P E := h
theorem w_f2 {g : D → D → M D} {x y : D} (h : Wp (g x y S) P E) : Wp (f2 g [x, y] S) P E := h
theorem w_part (h : Wp (a ρ S) (fun x S1 => ∃ i, x = .int i ∧ PO (some i) S1) E) : Wp (dPart a ρ S) PO E :=
  wp_bind (h.imp fun x _ ⟨k, e, h⟩ => by subst e; exact h)
theorem w_noPart (h : PO none S) : Wp (dNoPart ρ S) PO E := h
theorem w_slice {lo hi : Env → M (Option Int)} (h : Wp (a ρ S) (fun x S1 => Wp (lo ρ S1) (fun l S2 => Wp (hi ρ S2) (fun h S3 => Wp (gSlice x l h S3) P E) E) E) E) : Wp (dSlice a lo hi ρ S) P E :=
  wp_bind (h.imp fun _ _ h => wp_bind (h.imp fun _ _ h => wp_bind h))
theorem w_catNew (h : Wp (a ρ S) (fun x S1 => Wp (b ρ S1) (fun y S2 => ∃ xs ys, lstOf S2 x = some xs ∧ lstOf S2 y = some ys ∧ xs.length + ys.length ≤ lim ∧ P (.loc S2.length) (S2 ++ [.lst (xs ++ ys)])) E) E) : Wp (dCatNew a b ρ S) P E :=
  wp_bind (h.imp fun _ _ h => wp_bind (h.imp fun _ _ ⟨xs, ys, e1, e2, hl, h5⟩ => by simp only [e1, e2]; rw [if_pos hl]; exact h5))
theorem w_new {r : List FE} (h : Wp (evalAll r ρ S) (fun xs S1 => P (.loc S1.length) (S1 ++ [.lst xs])) E) : Wp (dNew r ρ S) P E := wp_bind h
theorem w_pick {ks : List Cs} {r : List FE} (h : Wp (evalAll r ρ S) (fun ds S1 => Wp (a ρ S1) (fun x S2 => ∃ s d, x = .str s ∧ (ks.zip ds).lookup s = some d ∧ P d S2) E) E) : Wp (dPick ks r a ρ S) P E :=
  wp_bind (h.imp fun _ _ h => wp_bind (h.imp fun _ _ ⟨s, d, e, e2, h⟩ => by subst e; simp only [e2]; exact h))
/-! tests -/
theorem w_tv (h : Wp (a ρ S) (fun x S1 => ∃ k, x = .bl k ∧ PB k S1) E) : Wp (tVal a ρ S) PB E :=
  wp_bind (h.imp fun x _ ⟨k, e, h⟩ => by subst e; exact h)
theorem w_tand (h : Wp (t ρ S) (fun k S1 => (k = true → Wp (u ρ S1) PB E) ∧ (k = false → PB false S1)) E) : Wp (tAnd t u ρ S) PB E :=
  wp_bind (h.imp fun k _ h => by
    cases k with
    | true => exact h.1 rfl
    | false => exact h.2 rfl)
theorem w_tor (h : Wp (t ρ S) (fun k S1 => (k = false → Wp (u ρ S1) PB E) ∧ (k = true → PB true S1)) E) : Wp (tOr t u ρ S) PB E :=
  wp_bind (h.imp fun k _ h => by
    cases k with
    | true => exact h.2 rfl
    | false => exact h.1 rfl)
theorem w_tnot (h : Wp (t ρ S) (fun k S1 => PB (!k) S1) E) : Wp (tNot t ρ S) PB E := wp_bind h
theorem w_tyes (h : PB true S) : Wp (tYes ρ S) PB E := h
/-! what is walked -/
theorem w_iv (h : Wp (a ρ S) (fun x S1 => ∃ ds, (x = .lst ds ∨ x = .tup ds ∨ ∃ s, x = .str s ∧ s.length ≤ lim ∧ ds = signs s) ∧ PI (ds, none) S1) E) : Wp (iVal a ρ S) PI E :=
  wp_bind (h.imp fun x _ ⟨ds, e, h⟩ => by
    rcases e with e | e | ⟨s, e, hl, e2⟩
    · subst e; exact h
    · subst e; exact h
    · subst e e2; dsimp only; rw [if_pos hl]; exact h)
theorem w_r1 (h : Wp (a ρ S) (fun x S1 => ∃ n : Int, x = .int n ∧ -16777216 ≤ n ∧ n ≤ 16777216 ∧ PI (rngD 0 n.toNat, none) S1) E) : Wp (iRange1 a ρ S) PI E :=
  wp_bind (h.imp fun x _ ⟨n, e, h1, h2, h⟩ => by subst e; dsimp only; rw [if_pos ⟨h1, h2⟩]; exact h)
theorem w_r2 (h : Wp (a ρ S) (fun x S1 => Wp (b ρ S1) (fun y S2 => ∃ m n : Int, x = .int m ∧ y = .int n ∧ (-16777216 ≤ m ∧ m ≤ 16777216 ∧ -16777216 ≤ n ∧ n ≤ 16777216 ∧ n - m ≤ 16777216) ∧ PI (rngD m (n - m).toNat, none) S2) E) E) : Wp (iRange2 a b ρ S) PI E :=
  wp_bind (h.imp fun x _ h => wp_bind (h.imp fun y _ ⟨m, n, e, e2, h1, h5⟩ => by subst e e2; dsimp only; rw [if_pos h1]; exact h5))
theorem w_en (h : Wp (a ρ S) (fun x S1 => ∃ s, x = .str s ∧ s.length ≤ lim ∧ PI (enumFrom 0 (signs s), none) S1) E) : Wp (iEnum a ρ S) PI E :=
  wp_bind (h.imp fun x _ ⟨n, e, h1, h⟩ => by subst e; dsimp only; rw [if_pos h1]; exact h)
/-! targets -/
theorem w_gn {i : Nat} {d : D} (h : PG (ρ.set i (some d)) S) : Wp (gName i d ρ S) PG E := h
theorem w_gt {gs : List FG} {ds : List D} (hl : ds.length = gs.length) (h : Wp (gAll gs ds ρ S) PG E) : Wp (gTup gs (.tup ds) ρ S) PG E := by
  show Wp (if ds.length = gs.length then gAll gs ds ρ S else .un) PG E
  rw [if_pos hl]; exact h
theorem w_ga0 (h : PG ρ S) : Wp (gAll [] [] ρ S) PG E := h
theorem w_ga1 {g : FG} {gs : List FG} {d : D} {ds : List D} (h : Wp (g d ρ S) (fun ρ1 S1 => Wp (gAll gs ds ρ1 S1) PG E) E) : Wp (gAll (g :: gs) (d :: ds) ρ S) PG E := wp_bind h
theorem w_gs {d : D} (h : Wp (a ρ S) (fun x S1 => Wp (b ρ S1) (fun y S2 => Wp (setAt x y d S2) (fun _ S3 => PG ρ S3) E) E) E) : Wp (gSubL a b d ρ S) PG E :=
  wp_bind (h.imp fun _ _ h => wp_bind (h.imp fun _ _ h => wp_bind h))
/-! statements -/
/-- after a statement: go on, or end -/
def Nx (K : Env → Store → Prop) (PC : Ctl → Store → Prop) (c : Ctl) (S : Store) : Prop := match c with
  | .next ρ => K ρ S
  | c => PC c S
theorem nx_next {K : Env → Store → Prop} (h : K ρ S) : Nx K PC (.next ρ) S := h
theorem nx_ret {K : Env → Store → Prop} {d : D} (h : PC (.ret d) S) : Nx K PC (.ret d) S := h
theorem w_nil (h : PC (.next ρ) S) : Wp (sNil ρ S) PC E := h
theorem w_seq (h : Wp (F ρ S) (Nx (fun ρ1 S1 => Wp (G ρ1 S1) PC E) PC) E) : Wp (sSeq F G ρ S) PC E :=
  wp_bind (h.imp fun c _ h => by cases c <;> exact h)
theorem w_asg {g : FG} (h : Wp (a ρ S) (fun d S1 => Wp (g d ρ S1) (fun ρ1 S2 => PC (.next ρ1) S2) E) E) : Wp (sAsg a g ρ S) PC E := wp_bind (h.imp fun _ _ h => wp_bind h)
theorem w_par {is : List Nat} {r : List FE} (h : Wp (evalAll r ρ S) (fun ds S1 => PC (.next (setAll is ds ρ)) S1) E) : Wp (sPar is r ρ S) PC E := wp_bind h
theorem w_aug {g : D → D → M D} {i : Nat} {x : D} (hx : ρ[i]? = some (some x)) (h : Wp (a ρ S) (fun y S1 => Wp (g x y S1) (fun z S2 => PC (.next (ρ.set i (some z))) S2) E) E) : Wp (sAug g i a ρ S) PC E := by
  unfold sAug
  simp only [hx]
  exact wp_bind (h.imp fun _ _ h => wp_bind h)
theorem w_expr (h : Wp (a ρ S) (fun _ S1 => PC (.next ρ) S1) E) : Wp (sExpr a ρ S) PC E := wp_bind h
theorem w_ret (h : Wp (a ρ S) (fun d S1 => PC (.ret d) S1) E) : Wp (sRet a ρ S) PC E := wp_bind h
theorem w_if (h : Wp (t ρ S) (fun k S1 => (k = true → Wp (F ρ S1) PC E) ∧ (k = false → Wp (G ρ S1) PC E)) E) : Wp (sIf t F G ρ S) PC E :=
  wp_bind (h.imp fun k _ h => by
    cases k with
    | true => exact h.1 rfl
    | false => exact h.2 rfl)
theorem w_ifs (ht : Wp (t ρ S) (fun _ S1 => S1 = S) E) (h1 : Wp (F ρ S) PC E) (h2 : Wp (G ρ S) PC E) : Wp (sIf t F G ρ S) PC E :=
  wp_bind (ht.imp fun k S1 h => by
    subst h
    cases k with
    | true => exact h1
    | false => exact h2)
theorem w_brk (h : PC (.brk ρ) S) : Wp (sBrk ρ S) PC E := h
theorem w_cnt (h : PC (.cnt ρ) S) : Wp (sCnt ρ S) PC E := h
theorem w_raise {c : Nat} (h : E c S) : Wp (sRaise c ρ S) PC E := h
theorem w_run {n : Nat} {ds : List D} (h : Wp (F (startE n ds) S) (fun c S1 => match c with
    | .ret d => P d S1
    | .next _ => P .non S1
    | _ => False) E) : Wp (runDef n F ds S) P E :=
  wp_bind (h.imp fun c _ h => by cases c <;> exact h)
/-- a loop, by an invariant of the items that are left -/
theorem w_forL {g : FG} (I : List D → Env → Store → Prop) {ds : List D} (h0 : I ds ρ S) (hn : ∀ ρ S, I [] ρ S → PC (.next ρ) S)
    (hs : ∀ d ds ρ S, I (d :: ds) ρ S → Wp (g d ρ S) (fun ρ1 S1 => Wp (F ρ1 S1) (fun c S2 => match c with
      | .next ρ2 => I ds ρ2 S2
      | .cnt ρ2 => I ds ρ2 S2
      | .brk ρ2 => PC (.next ρ2) S2
      | .ret d => PC (.ret d) S2) E) E) : Wp (forL g F ds ρ S) PC E := by
  induction ds generalizing ρ S with
  | nil => exact hn ρ S h0
  | cons d ds ih =>
    refine wp_bind ((hs d ds ρ S h0).imp fun ρ1 S1 h => wp_bind (h.imp fun c S2 h => ?_))
    cases c with
    | next ρ2 => exact ih h
    | cnt ρ2 => exact ih h
    | brk ρ2 => exact h
    | ret d => exact h
theorem w_for {it : FI} {g : FG} (h : Wp (it ρ S) (fun p S1 => p.2 = none ∧ Wp (forL g F p.1 ρ S1) PC E) E) : Wp (sFor it g F ρ S) PC E :=
  wp_bind (h.imp fun p _ ⟨e, h⟩ => by
    obtain ⟨ds, w⟩ := p
    subst e
    exact h)
/-! comprehensions -/
theorem compL_pure {g : FG} {vs : List Nat} {e : FE} (k : D → Bool) (f : D → D) : ∀ {ds : List D}, (∀ d ∈ ds, ∃ ρ1, g d (wipe ρ vs) S = .ok ρ1 S ∧ t ρ1 S = .ok (k d) S ∧ (k d = true → e ρ1 S = .ok (f d) S)) →
    compL g vs t e ρ ds S = .ok ((ds.filter k).map f) S
  | [], _ => rfl
  | d :: ds, h => by
    obtain ⟨ρ1, h1, h2, h3⟩ := h d (List.mem_cons_self ..)
    unfold compL
    rw [h1]
    simp only [Res.ok_noex, Res.ok_bind, h2]
    have ih := compL_pure (g := g) (vs := vs) (e := e) k f (ds := ds) fun d' hd => h d' (List.mem_cons_of_mem _ hd)
    cases hk : k d with
    | true =>
      simp only [if_true, h3 hk, Res.ok_noex, Res.ok_bind, ih, List.filter_cons, hk, List.map_cons]
    | false =>
      simp only [Bool.false_eq_true, if_false, ih, List.filter_cons, hk]
theorem comp_pure {it : FI} {g : FG} {vs : List Nat} {e : FE} {ds : List D} (k : D → Bool) (f : D → D) (hi : it ρ S = .ok (ds, none) S) (hl : ds.length ≤ lim) (h : ∀ d ∈ ds, ∃ ρ1, g d (wipe ρ vs) S = .ok ρ1 S ∧ t ρ1 S = .ok (k d) S ∧ (k d = true → e ρ1 S = .ok (f d) S)) :
    dComp it g vs t e ρ S = .ok (.lst ((ds.filter k).map f)) S := by
  unfold dComp
  rw [hi]
  simp only [Res.ok_bind, if_pos hl]
  rw [compL_pure k f h]
  rfl
/-- each item by an invariant of the number of turns that are left -/
theorem w_compL {g : FG} {vs : List Nat} {e : FE} (I : Nat → Store → Prop) (Q : D → Prop) : ∀ {ds : List D} {S : Store}, I ds.length S →
    (∀ d n S, I (n + 1) S → Wp (g d (wipe ρ vs) S) (fun ρ1 S1 => Wp (e ρ1 S1) (fun y S2 => Q y ∧ I n S2) fun _ _ => False) fun _ _ => False) →
    Wp (compL g vs tYes e ρ ds S) (fun ys S1 => ys.length = ds.length ∧ (∀ y ∈ ys, Q y) ∧ I 0 S1) E
  | [], S, h, _ => ⟨rfl, fun y hy => by simp at hy, h⟩
  | d :: ds, S, h, hs => by
    unfold compL
    refine wp_bind (wp_noex ((hs d ds.length S h).imp fun ρ1 S1 h1 => ?_))
    show Wp (Res.bind (e ρ1 S1).noex _) _ _
    refine wp_bind (wp_noex (h1.imp fun y S2 h2 => ?_))
    refine wp_bind ((w_compL I Q h2.2 hs).imp fun ys S3 h3 => ?_)
    refine ⟨by simp [h3.1], fun z hz => ?_, h3.2.2⟩
    rcases List.mem_cons.mp hz with e | e
    · rw [e]; exact h2.1
    · exact h3.2.1 z e
theorem w_comp {it : FI} {g : FG} {vs : List Nat} {e : FE} (h : Wp (it ρ S) (fun p S1 => p.2 = none ∧ p.1.length ≤ lim ∧ Wp (compL g vs t e ρ p.1 S1) (fun ys S2 => P (.lst ys) S2) E) E) : Wp (dComp it g vs t e ρ S) P E :=
  wp_bind (h.imp fun p _ ⟨e, hl, h⟩ => by
    obtain ⟨ds, w⟩ := p
    subst e
    rw [if_pos hl]
    exact wp_bind h)
end
/-- one step of straight-line code -/
theorem c_tt {A B : Prop} (h : A) : (true = true → A) ∧ (true = false → B) := ⟨fun _ => h, fun z => nomatch z⟩
theorem c_ff {A B : Prop} (h : B) : (false = true → A) ∧ (false = false → B) := ⟨fun z => (nomatch z), fun _ => h⟩
theorem c_ot {A B : Prop} (h : B) : (true = false → A) ∧ (true = true → B) := ⟨fun z => (nomatch z), fun _ => h⟩
theorem c_of {A B : Prop} (h : A) : (false = false → A) ∧ (false = true → B) := ⟨fun _ => h, fun z => nomatch z⟩
end WF
local macro_rules | `(tactic| walk_at "wf one") => `(tactic| first
  | with_reducible refine WF.w_seq ?_ | with_reducible refine WF.w_asg ?_ | with_reducible refine WF.w_par ?_ | with_reducible refine WF.w_ret ?_ | with_reducible refine WF.w_if ?_ | with_reducible refine WF.w_expr ?_ | with_reducible refine WF.w_nil ?_
  | with_reducible refine WF.nx_next ?_ | with_reducible refine WF.nx_ret ?_
  | with_reducible refine WF.w_c ?_ | with_reducible refine WF.w_un ?_ | with_reducible refine WF.w_bin ?_ | with_reducible refine WF.w_call ?_ | with_reducible refine WF.w_tup ?_ | with_reducible refine WF.w_lst ?_ | with_reducible refine WF.w_all0 ?_ | with_reducible refine WF.w_all1 ?_
  | with_reducible refine WF.w_and ?_ | with_reducible refine WF.w_or ?_ | with_reducible refine WF.w_not ?_ | with_reducible refine WF.w_ite ?_ | with_reducible refine WF.w_chain ?_ | with_reducible refine WF.w_strM ?_ | with_reducible refine WF.w_pick ?_
  | with_reducible refine WF.w_part ?_ | with_reducible refine WF.w_noPart ?_ | with_reducible refine WF.w_slice ?_ | with_reducible refine WF.w_catNew ?_ | with_reducible refine WF.w_new ?_
  | with_reducible refine WF.w_f1 ?_ | with_reducible refine WF.w_f2 ?_
  | with_reducible refine WF.w_tv ?_ | with_reducible refine WF.w_tand ?_ | with_reducible refine WF.w_tor ?_ | with_reducible refine WF.w_tnot ?_ | with_reducible refine WF.w_tyes ?_
  | with_reducible refine WF.w_iv ?_ | with_reducible refine WF.w_r1 ?_ | with_reducible refine WF.w_r2 ?_ | with_reducible refine WF.w_en ?_
  | with_reducible refine WF.w_gn ?_ | with_reducible refine WF.w_ga0 ?_ | with_reducible refine WF.w_ga1 ?_ | with_reducible refine WF.w_gs ?_ | with_reducible refine WF.w_comp ?_ | with_reducible refine WF.w_for ?_ | with_reducible refine WF.w_raise ?_
  | ((with_reducible apply WF.w_var); focus rfl))
local macro_rules | `(tactic| walk_at "wf one0") => `(tactic| first
  | with_reducible refine WF.w_seq ?_ | with_reducible refine WF.w_asg ?_ | with_reducible refine WF.w_par ?_ | with_reducible refine WF.w_ret ?_ | with_reducible refine WF.w_if ?_ | with_reducible refine WF.w_expr ?_ | with_reducible refine WF.w_nil ?_
  | with_reducible refine WF.nx_next ?_ | with_reducible refine WF.nx_ret ?_
  | with_reducible refine WF.w_c ?_ | with_reducible refine WF.w_un ?_ | with_reducible refine WF.w_bin ?_ | with_reducible refine WF.w_call ?_ | with_reducible refine WF.w_tup ?_ | with_reducible refine WF.w_lst ?_ | with_reducible refine WF.w_all0 ?_ | with_reducible refine WF.w_all1 ?_
  | with_reducible refine WF.w_and ?_ | with_reducible refine WF.w_or ?_ | with_reducible refine WF.w_not ?_ | with_reducible refine WF.w_ite ?_ | with_reducible refine WF.w_chain ?_ | with_reducible refine WF.w_strM ?_ | with_reducible refine WF.w_pick ?_
  | with_reducible refine WF.w_part ?_ | with_reducible refine WF.w_noPart ?_ | with_reducible refine WF.w_slice ?_ | with_reducible refine WF.w_catNew ?_ | with_reducible refine WF.w_new ?_
  | with_reducible refine WF.w_f1 ?_ | with_reducible refine WF.w_f2 ?_
  | with_reducible refine WF.w_tv ?_ | with_reducible refine WF.w_tand ?_ | with_reducible refine WF.w_tor ?_ | with_reducible refine WF.w_tnot ?_ | with_reducible refine WF.w_tyes ?_
  | with_reducible refine WF.w_iv ?_ | with_reducible refine WF.w_r1 ?_ | with_reducible refine WF.w_r2 ?_ | with_reducible refine WF.w_en ?_
  | with_reducible refine WF.w_gn ?_ | with_reducible refine WF.w_ga0 ?_ | with_reducible refine WF.w_ga1 ?_ | with_reducible refine WF.w_gs ?_ | with_reducible refine WF.w_raise ?_
  | ((with_reducible refine WF.w_gt ?hl ?_); focus rfl)
  | ((with_reducible apply WF.w_var); focus rfl))
local macro_rules | `(tactic| walk_at "wf all") => `(tactic| repeat walk_at "wf one")
local macro_rules | `(tactic| walk_at "wf op") => `(tactic| (refine WF.wp_eq rfl ?_; walk_at "wf all"))
local macro_rules | `(tactic| walk_at "wf bool") => `(tactic| first
  | with_reducible refine WF.c_tt ?_ | with_reducible refine WF.c_ff ?_ | with_reducible refine WF.c_ot ?_ | with_reducible refine WF.c_of ?_
  | refine WF.c_tt ?_ | refine WF.c_ff ?_ | refine WF.c_ot ?_ | refine WF.c_of ?_
  | refine ⟨true, rfl, ?_⟩ | refine ⟨false, rfl, ?_⟩ | refine ⟨_, _, rfl, rfl, ?_⟩ | refine ⟨_, rfl, ?_⟩)
local macro_rules | `(tactic| walk_at "wf go") => `(tactic| repeat (first | walk_at "wf one" | walk_at "wf bool" | refine WF.wp_eq rfl ?_))
local macro_rules | `(tactic| walk_at "wf go0") => `(tactic| repeat (first | walk_at "wf one0" | walk_at "wf bool" | refine WF.wp_eq rfl ?_))

set_option linter.all false
set_option maxRecDepth 100000
set_option maxHeartbeats 4000000
/-! # MPure: pieces of texts, what a question finds -/
namespace WF
theorem join_nil : ∀ ts : List Cs, joinCs [] ts = ts.flatten
  | [] => rfl
  | [x] => by simp [joinCs]
  | x :: y :: xs => by rw [joinCs, join_nil (y :: xs)]; simp
theorem strsOf_signs : ∀ {ds : List D}, (∀ y ∈ ds, ∃ c, y = .str [c] ∧ okc c) → ∃ t : Cs, ds = signs t ∧ okt t
  | [], _ => ⟨[], rfl, by simp [okt]⟩
  | d :: ds, h => by
    obtain ⟨c, rfl, hc⟩ := h d (List.mem_cons_self ..)
    obtain ⟨t, rfl, ht⟩ := strsOf_signs fun y hy => h y (List.mem_cons_of_mem _ hy)
    refine ⟨c :: t, rfl, fun x hx => ?_⟩
    rcases List.mem_cons.mp hx with e | e
    · rw [e]; exact hc
    · exact ht x e
theorem strs_signs : ∀ t : Cs, strsOf (signs t) = some (t.map fun c => [c])
  | [] => rfl
  | c :: t => by
    show (strsOf (signs t)).map ([c] :: ·) = _
    rw [strs_signs t]
    rfl
theorem joinLen_one : ∀ t : Cs, joinLen [] (t.map fun c => [c]) = t.length
  | [] => rfl
  | c :: t => by
    have := joinLen_one t
    simp only [joinLen, List.map_cons, List.sum_cons, List.length_cons, List.length_nil] at this ⊢
    omega
theorem join_signs {t : Cs} {S : Store} (h : t.length ≤ lim) : bJoin (.str []) (.lst (signs t)) S = .ok (.str t) S := by
  unfold bJoin
  have e : (seqOf S (.lst (signs t))).bind strsOf = some (t.map fun c => [c]) := strs_signs t
  simp only [e]
  rw [if_pos ⟨by simpa using h, by rw [joinLen_one]; exact h⟩, join_nil]
  have : ∀ t : Cs, (t.map fun c => [c]).flatten = t := fun t => by
    induction t with
    | nil => rfl
    | cons c t ih => simp [ih]
  rw [this]
/-! ### pieces of texts -/
theorem sIx_nat {n d a : Nat} : sIx n d (some (a : Int)) = min a n := by
  unfold sIx
  dsimp only
  rw [if_neg (by omega)]
  omega
theorem mem_cut {t : Cs} {a b w : Nat} : w ∈ cut t (some (a : Int)) (some (b : Int)) ↔ ∃ j, a ≤ j ∧ j < b ∧ t[j]? = some w := by
  unfold cut
  rw [sIx_nat, sIx_nat, List.mem_iff_getElem?]
  constructor
  · rintro ⟨i, h⟩
    rw [List.getElem?_take] at h
    split at h
    · rename_i hi
      rw [List.getElem?_drop] at h
      refine ⟨min a t.length + i, ?_, by omega, h⟩
      have : min a t.length + i < t.length := by
        rcases Nat.lt_or_ge (min a t.length + i) t.length with z | z
        · exact z
        · rw [List.getElem?_eq_none z] at h; cases h
      omega
    · cases h
  · rintro ⟨j, h1, h2, h⟩
    have hj : j < t.length := by
      rcases Nat.lt_or_ge j t.length with z | z
      · exact z
      · rw [List.getElem?_eq_none z] at h; cases h
    refine ⟨j - min a t.length, ?_⟩
    rw [List.getElem?_take, if_pos (by omega), List.getElem?_drop, show min a t.length + (j - min a t.length) = j by omega]
    exact h
theorem subIn_one {w : Nat} : ∀ {l : Cs}, subIn [w] l = l.contains w
  | [] => rfl
  | c :: l => by
    unfold subIn
    rw [subIn_one, List.contains_cons]
    simp [List.isPrefixOf]
theorem mem_enum {d : D} : ∀ {t : Cs} {k : Nat}, d ∈ enumFrom k (signs t) ↔ ∃ i c, t[i]? = some c ∧ d = .tup [.int ((k + i : Nat) : Int), .str [c]]
  | [], k => by simp [signs, enumFrom]
  | c :: t, k => by
    show d ∈ .tup [.int (k : Int), .str [c]] :: enumFrom (k + 1) (signs t) ↔ _
    rw [List.mem_cons, mem_enum]
    constructor
    · rintro (h | ⟨i, c', h1, h2⟩)
      · exact ⟨0, c, rfl, h⟩
      · exact ⟨i + 1, c', h1, by rw [h2, show k + 1 + i = k + (i + 1) by omega]⟩
    · rintro ⟨i, c', h1, h2⟩
      cases i with
      | zero =>
        simp at h1
        exact .inl (by rw [h2, h1]; rfl)
      | succ i => exact .inr ⟨i, c', by simpa using h1, by rw [h2, show k + 1 + i = k + (i + 1) by omega]⟩
/-- one turn of are_close -/
def cloH (t : Cs) (v w : Nat) (g : Int) (d : D) : Bool := match d with
  | .tup [.int i, .str [c]] => c == v && subIn [w] (cut t (some (i + 1)) (some (i + 2 + g)))
  | _ => false
def clo (t : Cs) (v w : Nat) (g : Nat) : Bool := (enumFrom 0 (signs t)).any (cloH t v w g)
theorem clo_iff {t : Cs} {v w g : Nat} : clo t v w g = true ↔ ∃ i j, t[i]? = some v ∧ t[j]? = some w ∧ i < j ∧ j ≤ i + 1 + g := by
  unfold clo
  rw [List.any_eq_true]
  constructor
  · rintro ⟨d, hd, h⟩
    obtain ⟨i, c, hc, rfl⟩ := mem_enum.mp hd
    simp only [cloH, Bool.and_eq_true, beq_iff_eq, subIn_one, List.contains_iff_mem] at h
    obtain ⟨rfl, h⟩ := h
    rw [show ((0 + i : Nat) : Int) + 1 = ((i + 1 : Nat) : Int) by omega, show ((0 + i : Nat) : Int) + 2 + (g : Int) = ((i + 2 + g : Nat) : Int) by omega, mem_cut] at h
    obtain ⟨j, h1, h2, h3⟩ := h
    exact ⟨i, j, hc, h3, by omega, by omega⟩
  · rintro ⟨i, j, h1, h2, h3, h4⟩
    refine ⟨_, mem_enum.mpr ⟨i, v, h1, rfl⟩, ?_⟩
    simp only [cloH, Bool.and_eq_true, beq_iff_eq, subIn_one, List.contains_iff_mem]
    refine ⟨trivial, ?_⟩
    rw [show ((0 + i : Nat) : Int) + 1 = ((i + 1 : Nat) : Int) by omega, show ((0 + i : Nat) : Int) + 2 + (g : Int) = ((i + 2 + g : Nat) : Int) by omega, mem_cut]
    exact ⟨j, by omega, by omega, h2⟩
theorem enum_length : ∀ (ds : List D) (k : Nat), (enumFrom k ds).length = ds.length
  | [], _ => rfl
  | d :: ds, k => by unfold enumFrom; rw [List.length_cons, List.length_cons, enum_length ds]
/-! ### what a question finds -/
def Q.ev : Q → Cs → Bool
  | .word c, t => subIn [c] t
  | .row s, t => subIn s t
  | .begin c, t => cut t none (some 1) == [c]
  | .end_ c, t => cut t (some (-1)) none == [c]
  | .often c n, t => decide ((n : Int) ≤ ((t.count c : Nat) : Int))
  | .near v w g, t => clo t w v g || clo t v w g
  | .before v w g, t => clo t v w g
  | .not p, t => !p.ev t
  | .and p q, t => p.ev t && q.ev t
  | .or p q, t => p.ev t || q.ev t
theorem mem_rng {n : Nat} {d : D} : d ∈ rngD 0 n ↔ ∃ i : Nat, i < n ∧ d = .int (i : Int) := by
  unfold rngD
  rw [List.mem_map]
  constructor
  · rintro ⟨i, hi, rfl⟩
    exact ⟨i, List.mem_range.mp hi, by simp⟩
  · rintro ⟨i, hi, rfl⟩
    exact ⟨i, List.mem_range.mpr hi, by simp⟩
theorem rng_len {n : Nat} : (rngD 0 n).length = n := by simp [rngD]
theorem cut_nat {t : Cs} {a b : Nat} (ha : a ≤ t.length) : cut t (some (a : Int)) (some ((a : Int) + (b : Int))) = (t.drop a).take b := by
  unfold cut
  rw [sIx_nat, show (a : Int) + (b : Int) = ((a + b : Nat) : Int) by omega, sIx_nat, Nat.min_eq_left ha]
  rcases Nat.le_total (a + b) t.length with h | h
  · rw [Nat.min_eq_left h]
    congr 1
    omega
  · rw [Nat.min_eq_right h, List.take_of_length_le (by simp), List.take_of_length_le (by simp; omega)]
theorem subIn_iffM {s : Cs} (hs : s ≠ []) : ∀ {t : Cs}, subIn s t = true ↔ ∃ k, k < t.length ∧ (t.drop k).take s.length = s
  | [] => by
    cases s with
    | nil => exact absurd rfl hs
    | cons c s => simp [subIn]
  | c :: t => by
    unfold subIn
    rw [Bool.or_eq_true, subIn_iffM hs]
    constructor
    · rintro (h | ⟨k, h1, h2⟩)
      · exact ⟨0, by simp, by
          obtain ⟨r, hr⟩ := List.isPrefixOf_iff_prefix.mp h
          rw [List.drop_zero, ← hr, List.take_left]⟩
      · exact ⟨k + 1, by simp; omega, by simpa using h2⟩
    · rintro ⟨k, h1, h2⟩
      cases k with
      | zero =>
        left
        rw [List.isPrefixOf_iff_prefix]
        rw [List.drop_zero] at h2
        exact ⟨(c :: t).drop s.length, by
          have := List.take_append_drop s.length (c :: t)
          rwa [h2] at this⟩
      | succ k => exact .inr ⟨k, by simp at h1; omega, by simpa using h2⟩
theorem cut0 {t : Cs} : cut t none (some 1) = t.take 1 := by
  cases t with
  | nil => rfl
  | cons c t =>
    show ((c :: t).drop (sIx _ 0 none)).take (sIx (c :: t).length _ (some ((1 : Nat) : Int)) - sIx (c :: t).length 0 none) = _
    rw [sIx_nat]
    simp [sIx]
theorem cutE {t : Cs} {c : Nat} : (cut t (some (-1)) none == [c]) = match t.getLast? with
    | some x => x == c
    | none => false := by
  rcases List.eq_nil_or_concat t with h | ⟨l, x, h⟩
  · subst h; rfl
  · subst h
    have : cut (l.concat x) (some (-1)) none = [x] := by
      have e : sIx (l.concat x).length 0 (some (-1)) = l.length := by
        simp [sIx]
        omega
      unfold cut
      rw [e]
      simp [sIx]
    rw [this]
    simp
theorem row_two {t : Cs} {v w : Nat} : subIn [v, w] t = clo t v w 0 := by
  rw [Bool.eq_iff_iff, clo_iff, subIn_iffM (by simp)]
  constructor
  · rintro ⟨k, hk, h⟩
    have e0 : ((t.drop k).take 2)[0]? = some v := by rw [show [v, w].length = 2 from rfl] at h; rw [h]; rfl
    have e1 : ((t.drop k).take 2)[1]? = some w := by rw [show [v, w].length = 2 from rfl] at h; rw [h]; rfl
    rw [List.getElem?_take, if_pos (by decide), List.getElem?_drop] at e0 e1
    exact ⟨k, k + 1, e0, e1, by omega, by omega⟩
  · rintro ⟨i, j, h1, h2, h3, h4⟩
    have : j = i + 1 := by omega
    subst this
    have hi : i < t.length := by
      rcases Nat.lt_or_ge i t.length with z | z
      · exact z
      · rw [List.getElem?_eq_none z] at h1; cases h1
    have hj : i + 1 < t.length := by
      rcases Nat.lt_or_ge (i + 1) t.length with z | z
      · exact z
      · rw [List.getElem?_eq_none z] at h2; cases h2
    refine ⟨i, hi, ?_⟩
    rw [List.drop_eq_getElem_cons hi, List.drop_eq_getElem_cons hj]
    rw [List.getElem?_eq_getElem hi] at h1
    rw [List.getElem?_eq_getElem hj] at h2
    simp at h1 h2
    simp [h1, h2]
end WF


set_option linter.all false
set_option maxRecDepth 100000
/-! # MDraw: the town's draws, in plain Lean -/
namespace WF
/-- the town: the first object of the store; the counter has room for b further draws -/
def Tn (n b : Nat) (R S : Store) : Prop := ∃ (c : Int) (is : List Int), 0 ≤ c ∧ c + b ≤ 1000000000000 ∧ is.length = n ∧ S = .lst (.int c :: is.map .int) :: R
theorem Tn.mono {n a b : Nat} {R S : Store} (h : Tn n b R S) (hab : a ≤ b) : Tn n a R S := by
  obtain ⟨c, is, h1, h2, h3, h4⟩ := h
  exact ⟨c, is, h1, by omega, h3, h4⟩
theorem plains_int : ∀ ns : List Int, D.plains (ns.map D.int) = true
  | [] => rfl
  | n :: ns => by simp [D.plains, D.plain, plains_int ns]
theorem eqvs_int_nil (ns : List Int) : D.eqvs (ns.map D.int) [] = ns.isEmpty := by cases ns <;> rfl
theorem depths_int : ∀ ns : List Int, D.depths (ns.map D.int) = 0
  | [] => rfl
  | n :: ns => by simp [D.depths, D.depth, depths_int ns]
theorem eq_nil (ns : List Int) (S : Store) : gEq (.lst (ns.map .int)) (.lst []) S = .ok (.bl ns.isEmpty) S := by
  simp [gEq, res, D.plain, plains_int, D.plains, D.depth, depths_int, D.depths, D.eqv, eqvs_int_nil]
theorem atI_at {α : Type} {xs : List α} {i : Int} {d : α} (h0 : 0 ≤ i) (h : xs[i.toNat]? = some d) : atI xs i = some d := by
  have hl : i.toNat < xs.length := by
    rcases Nat.lt_or_ge i.toNat xs.length with z | z
    · exact z
    · rw [List.getElem?_eq_none z] at h; cases h
  unfold atI ixN
  rw [if_pos h0, if_pos (by omega)]
  exact h
theorem ixN_at {n : Nat} {i : Int} (h0 : 0 ≤ i) (h : i < n) : ixN n i = some i.toNat := by
  unfold ixN
  rw [if_pos h0, if_pos h]
theorem emod_lt {a m : Int} (h : 0 < m) : 0 ≤ a.fmod m ∧ a.fmod m < m := by
  rw [Int.fmod_eq_emod_of_nonneg _ (Int.le_of_lt h)]
  exact ⟨Int.emod_nonneg _ (by omega), Int.emod_lt_of_pos _ h⟩
theorem gMod_ok {a m : Int} {S : Store} (h : 0 < m) : gMod (.int a) (.int m) S = .ok (.int (a.fmod m)) S := by
  simp [gMod, show m ≠ 0 by omega]
theorem gFdiv_ok {a m : Int} {S : Store} (h : 0 < m) (h2 : m < 1073741824) : gFdiv (.int a) (.int m) S = .ok (.int (a.fdiv m)) S := by
  unfold gFdiv
  dsimp only
  rw [if_pos ⟨by omega, by omega⟩]
theorem gMul_ok {a b : Int} {S : Store} (h : (-two64 < a ∧ a < two64) ∨ (-two64 < b ∧ b < two64)) : gMul (.int a) (.int b) S = .ok (.int (a * b)) S := by
  unfold gMul
  dsimp only
  rw [if_pos h]
theorem gPow_ok {a b : Int} {S : Store} (h0 : 0 ≤ b) (h1 : b ≤ 1000) (h : 0 ≤ a) (h2 : a < 18446744073709551616) : gPow (.int a) (.int b) S = .ok (.int (a ^ b.toNat)) S := by
  unfold gPow
  dsimp only
  rw [if_pos ⟨h0, h1, by omega⟩]
theorem gAdd_ok {a b : Int} {S : Store} : gAdd (.int a) (.int b) S = .ok (.int (a + b)) S := rfl
theorem bLen_lst {ds : List D} {S : Store} : bLen (.lst ds) S = .ok (.int ds.length) S := rfl
theorem gIdx_lst {ds : List D} {i : Int} {S : Store} {d : D} (h0 : 0 ≤ i) (h : ds[i.toNat]? = some d) : gIdx (.lst ds) (.int i) S = .ok d S := by
  simp only [gIdx, res, atI_at h0 h]
theorem gIdx_loc {n : Nat} {ds : List D} {i : Int} {S : Store} {d : D} (hS : S[n]? = some (.lst ds)) (h0 : 0 ≤ i) (h : ds[i.toNat]? = some d) : gIdx (.loc n) (.int i) S = .ok d S := by
  simp only [gIdx, res, hS, atI_at h0 h]
theorem setAt_loc {n : Nat} {ds : List D} {i : Int} {S : Store} {v : D} (hS : S[n]? = some (.lst ds)) (h0 : 0 ≤ i) (h : i < ds.length) : setAt (.loc n) (.int i) v S = .ok () (S.set n (.lst (ds.set i.toNat v))) := by
  simp only [setAt, hS, ixN_at h0 h]

theorem draw_ok {ns : List Int} {b : Nat} {R S : Store} {P : D → Store → Prop} {E : Nat → Store → Prop} {m : Int} (h : Tn ns.length (b + 1) R S) (hm : 0 < m) (hb : m < 1000000)
    (q : ∀ r S', 0 ≤ r → r < m → Tn ns.length b R S' → P (.int r) S') : Wp (L_draw [.lst (ns.map .int), .loc 0, .int m] S) P E := by
  obtain ⟨c, is, h1, h2, h3, rfl⟩ := h
  have T' : ∀ is' : List Int, is'.length = ns.length → Tn ns.length b R (.lst (.int (c + 1) :: is'.map .int) :: R) := fun is' hl => ⟨c + 1, is', by omega, by omega, hl, rfl⟩
  have g0 : ∀ is' : List Int, gIdx (.loc 0) (.int 0) (.lst (.int (c + 1) :: is'.map .int) :: R) = .ok (.int (c + 1)) (.lst (.int (c + 1) :: is'.map .int) :: R) := fun is' => gIdx_loc (n := 0) rfl (by decide) rfl
  unfold L_draw
  refine w_run ?_
  walk_at "wf all"
  refine wp_eq (gIdx_loc (n := 0) rfl (by decide) rfl) ?_
  walk_at "wf all"
  walk_at "wf op"
  refine wp_eq (setAt_loc (n := 0) rfl (by decide) (by simp)) ?_
  walk_at "wf all"
  refine wp_eq (eq_nil ..) ?_
  refine ⟨_, rfl, ⟨fun hn => ?_, fun hn => ?_⟩⟩
  · walk_at "wf all"
    refine wp_eq (g0 is) ?_
    walk_at "wf all"
    refine wp_eq (g0 is) ?_
    refine wp_eq (gMul_ok (.inl ⟨by simp only [two64]; omega, by simp only [two64]; omega⟩)) ?_
    walk_at "wf all"
    refine wp_eq (gMul_ok (.inr ⟨by decide, by decide⟩)) ?_
    walk_at "wf all"
    refine wp_eq (gFdiv_ok (by decide) (by decide)) ?_
    walk_at "wf all"
    refine wp_eq (gMod_ok hm) ?_
    walk_at "wf all"
    exact q _ _ (emod_lt hm).1 (emod_lt hm).2 (T' is h3)
  · have hpos : 0 < ns.length := by
      cases ns with
      | nil => cases hn
      | cons _ _ => simp
    walk_at "wf all"
    refine wp_eq (g0 is) ?_
    walk_at "wf all"
    refine wp_eq (bLen_lst) ?_
    rw [List.length_map]
    have hlen : (0 : Int) < ((ns.length : Nat) : Int) := by omega
    refine wp_eq (gMod_ok hlen) ?_
    have hj := emod_lt (a := c + 1) hlen
    generalize hjj : Int.fmod (c + 1) ((ns.length : Nat) : Int) = j at hj ⊢
    obtain ⟨hj0, hj1⟩ := hj
    have hjn : j.toNat < is.length := by omega
    have hjn' : j.toNat < ns.length := by omega
    have e1 : (1 + j).toNat = j.toNat + 1 := by omega
    have g1 : gIdx (.loc 0) (.int (1 + j)) (.lst (.int (c + 1) :: is.map .int) :: R) = .ok (.int is[j.toNat]) (.lst (.int (c + 1) :: is.map .int) :: R) := by
      refine gIdx_loc (n := 0) rfl (by omega) ?_
      rw [e1, List.getElem?_cons_succ, List.getElem?_map, List.getElem?_eq_getElem hjn]
      rfl
    have g2 : ∀ T : Store, gIdx (.lst (ns.map .int)) (.int j) T = .ok (.int ns[j.toNat]) T := fun T => by
      refine gIdx_lst hj0 ?_
      rw [List.getElem?_map, List.getElem?_eq_getElem hjn']
      rfl
    walk_at "wf all"
    walk_at "wf op"
    refine wp_eq g1 ?_
    refine w_seq ?_
    refine w_ifs ?_ ?_ ?_
    · walk_at "wf all"
      refine wp_eq (g2 _) ?_
      walk_at "wf all"
      refine wp_eq (gPow_ok (by decide) (by decide) (by decide) (by decide)) ?_
      walk_at "wf op"
      refine ⟨_, rfl, fun _ => ?_, fun _ => rfl⟩
      walk_at "wf all"
      walk_at "wf op"
      exact ⟨_, rfl, rfl⟩
    · walk_at "wf all"
      refine wp_eq (gFdiv_ok hm (by omega)) ?_
      walk_at "wf all"
      walk_at "wf op"
      refine wp_eq (setAt_loc (n := 0) rfl (by omega) (by simp; omega)) ?_
      walk_at "wf all"
      refine wp_eq (gMod_ok hm) ?_
      walk_at "wf all"
      refine q _ _ (emod_lt hm).1 (emod_lt hm).2 ?_
      have := T' (is.set j.toNat (Int.fdiv is[j.toNat] m)) (by simp [h3])
      rw [e1]
      simpa [List.map_set] using this
    · walk_at "wf all"
      refine wp_eq (g2 _) ?_
      walk_at "wf all"
      refine wp_eq (g0 is) ?_
      refine wp_eq (gMul_ok (.inl ⟨by decide, by decide⟩)) ?_
      walk_at "wf op"
      refine wp_eq (gMod_ok (by decide)) ?_
      walk_at "wf all"
      have h5 := emod_lt (a := ns[j.toNat] + 104729 * (c + 1)) (m := 4294967291) (by decide)
      generalize Int.fmod (ns[j.toNat] + 104729 * (c + 1)) 4294967291 = x at h5 ⊢
      refine wp_eq (gPow_ok (by decide) (by decide) h5.1 (by omega)) ?_
      walk_at "wf all"
      refine wp_eq (gMod_ok (by decide)) ?_
      walk_at "wf all"
      refine wp_eq (gFdiv_ok (by decide) (by decide)) ?_
      walk_at "wf all"
      refine wp_eq (gMul_ok (.inr ⟨by decide, by decide⟩)) ?_
      walk_at "wf all"
      walk_at "wf op"
      refine wp_eq (gMod_ok (by decide)) ?_
      walk_at "wf all"
      refine wp_eq (gFdiv_ok (by decide) (by decide)) ?_
      walk_at "wf all"
      refine wp_eq (gMod_ok hm) ?_
      walk_at "wf all"
      exact q _ _ (emod_lt hm).1 (emod_lt hm).2 (T' is h3)
section
variable {ns : List Int} {b : Nat} {R S : Store} {P : D → Store → Prop} {E : Nat → Store → Prop}
theorem pick_ok {ds : List D} (h : Tn ns.length (b + 1) R S) (h0 : 0 < ds.length) (hl : ds.length < 1000) (q : ∀ d S', d ∈ ds → Tn ns.length b R S' → P d S') : Wp (L_pick [.lst (ns.map .int), .loc 0, .lst ds] S) P E := by
  unfold L_pick
  refine w_run ?_
  walk_at "wf all"
  refine wp_eq bLen_lst ?_
  refine draw_ok h (by omega) (by omega) fun r S' h1 h2 h3 => ?_
  have hr : r.toNat < ds.length := by omega
  refine wp_eq (gIdx_lst (d := ds[r.toNat]) h1 (by simp [hr])) ?_
  exact q _ _ (List.getElem_mem hr) h3
theorem word_ok (h : Tn ns.length (b + 2) R S) (q : ∀ c S', okc c → Tn ns.length b R S' → P (.str [c]) S') : Wp (L_word [.lst (ns.map .int), .loc 0] S) P E := by
  unfold L_word
  refine w_run ?_
  walk_at "wf all"
  refine pick_ok h (by decide) (by decide) fun d S' hd h1 => ?_
  have hd' : ∃ m : Int, d = .int m ∧ 2 ≤ m ∧ m ≤ 4 := by
    simp at hd
    rcases hd with e | e | e
    · exact ⟨2, e, by decide, by decide⟩
    · exact ⟨3, e, by decide, by decide⟩
    · exact ⟨4, e, by decide, by decide⟩
  obtain ⟨m, rfl, hm, hm2⟩ := hd'
  refine draw_ok h1 (by omega) (by omega) fun r S' h2 h3 h4 => ?_
  have : r = 0 ∨ r = 1 ∨ r = 2 ∨ r = 3 := by omega
  rcases this with e | e | e | e <;> subst e
  · exact q 97 S' (.inl rfl) h4
  · exact q 98 S' (.inr (.inl rfl)) h4
  · exact q 99 S' (.inr (.inr (.inl rfl))) h4
  · exact q 100 S' (.inr (.inr (.inr rfl))) h4
theorem town_ok (ns : List Int) (hl : ns.length ≤ 63) (R : Store) (hR : R = []) (q : ∀ S', Tn ns.length 1000000000 R S' → P (.loc 0) S') : Wp (L_town [.lst (ns.map .int)] []) P E := by
  unfold L_town
  refine w_run ?_
  walk_at "wf all"
  refine wp_eq (show bList (.lst (ns.map .int)) [] = .ok (.lst (ns.map .int)) [] from rfl) ?_
  refine ⟨_, _, rfl, rfl, by simp [lim]; omega, ?_⟩
  exact q _ ⟨0, ns, by decide, by decide, rfl, by rw [hR]; rfl⟩
end
end WF


set_option linter.all false
set_option maxRecDepth 100000
/-! # MSimp: a simple question drawn -/
namespace WF
section
variable {ns : List Int} {b : Nat} {R S : Store} {P : D → Store → Prop} {E : Nat → Store → Prop}
theorem simple_ok (h : Tn ns.length (b + 8) R S) (k : ∀ (q : Q) S', q.wf → q.simple → Tn ns.length b R S' → P q.enc S') : Wp (L_simple [.lst (ns.map .int), .loc 0] S) P E := by
  unfold L_simple
  refine w_run ?_
  walk_at "wf all"
  refine draw_ok (b := b + 7) h (by omega) (by omega) fun r S' h2 h3 h4 => ?_
  walk_at "wf all"
  refine word_ok (b := b + 5) h4 fun v S' hv h4 => ?_
  walk_at "wf all"
  refine word_ok (b := b + 3) h4 fun w S' hw h4 => ?_
  walk_at "wf all"
  walk_at "wf op"
  refine ⟨_, rfl, fun e => ?_, fun e => ?_⟩
  · walk_at "wf all"
    walk_at "wf op"
    refine word_ok (b := b + 1) h4 fun x S' hx h5 => ?_
    walk_at "wf all"
    refine pick_ok h5 (by simp) (by simp) fun d S' hd h6 => ?_
    have hd' : ∃ s : Cs, d = .str s ∧ s.length ≤ 1 ∧ ∀ c ∈ s, okc c := by
      simp at hd
      rcases hd with e | e
      · exact ⟨[], e, by decide, by simp⟩
      · exact ⟨[x], e, by simp, by simpa using hx⟩
    obtain ⟨s, rfl, hs, hs2⟩ := hd'
    refine wp_eq (show gAdd (.str ([v] ++ [w])) (.str s) S' = .ok (.str ([v, w] ++ s)) S' from ?_) ?_
    · unfold gAdd
      dsimp only
      rw [if_pos (by simp [lim]; omega)]
      rfl
    exact k (.row ([v, w] ++ s)) S' ⟨by simp; exact ⟨hv, hw, hs2⟩, by simp, by simp; omega⟩ trivial (h6.mono (by omega))
  · walk_at "wf all"
    walk_at "wf op"
    refine ⟨_, rfl, fun e2 => ?_, fun e2 => ?_⟩
    · have e1 := of_decide_eq_false e
      have e3 := of_decide_eq_true e2
      have : r = 2 ∨ r = 3 := by omega
      rcases this with e | e <;> subst e
      · walk_at "wf all"
        walk_at "wf op"
        walk_at "wf op"
        refine draw_ok (b := b + 2) h4 (by omega) (by omega) fun r S' h2 h3 h4 => ?_
        walk_at "wf all"
        have := k (.near v w r.toNat) S' ⟨hv, hw, by omega⟩ trivial (h4.mono (by omega))
        simpa [Q.enc, show ((r.toNat : Nat) : Int) = r by omega] using this
      · walk_at "wf all"
        walk_at "wf op"
        walk_at "wf op"
        refine draw_ok (b := b + 2) h4 (by omega) (by omega) fun r S' h2 h3 h4 => ?_
        walk_at "wf all"
        have := k (.before v w r.toNat) S' ⟨hv, hw, by omega⟩ trivial (h4.mono (by omega))
        simpa [Q.enc, show ((r.toNat : Nat) : Int) = r by omega] using this
    · walk_at "wf all"
      walk_at "wf op"
      refine ⟨_, rfl, fun e3 => ?_, fun e3 => ?_⟩
      · walk_at "wf all"
        refine draw_ok (b := b + 2) h4 (by omega) (by omega) fun r S' h2 h3 h4 => ?_
        walk_at "wf op"
        have := k (.often v (2 + r).toNat) S' ⟨hv, by omega, by omega⟩ trivial (h4.mono (by omega))
        simpa [Q.enc, show (((2 + r).toNat : Nat) : Int) = 2 + r by omega] using this
      · walk_at "wf all"
        refine draw_ok (b := b + 2) h4 (by omega) (by omega) fun r S' h2 h3 h4 => ?_
        have : r = 0 ∨ r = 1 ∨ r = 2 := by omega
        rcases this with e | e | e <;> subst e
        · walk_at "wf op"
          exact k (.begin v) S' hv trivial (h4.mono (by omega))
        · walk_at "wf op"
          exact k (.end_ v) S' hv trivial (h4.mono (by omega))
        · walk_at "wf op"
          exact k (.word v) S' hv trivial (h4.mono (by omega))
end
end WF


set_option linter.all false
set_option maxRecDepth 100000
set_option maxHeartbeats 4000000
/-! # MC: the checks and the finds, in plain Lean -/
namespace WF
section
variable {S : Store}
theorem bLen_str {t : Cs} (h : t.length ≤ lim) : bLen (.str t) S = .ok (.int t.length) S := by
  simp [bLen, res, h]
theorem lst_bools {bs : List Bool} : (lstOf S (.lst (bs.map D.bl))).bind boolsOf = some bs := by
  show boolsOf (bs.map D.bl) = _
  induction bs with
  | nil => rfl
  | cons b bs ih => simp [boolsOf, ih]
theorem bAll_ok {bs : List Bool} : bAll (.lst (bs.map D.bl)) S = .ok (.bl (bs.all id)) S := by simp [bAll, lst_bools]
theorem bAny_ok {bs : List Bool} : bAny (.lst (bs.map D.bl)) S = .ok (.bl (bs.any id)) S := by simp [bAny, lst_bools]
theorem filter_true {α : Type} (l : List α) : l.filter (fun _ => true) = l := by simp
/-- are_words of a text -/
theorem are_words_ok {t : Cs} {lo hi : Int} (h : t.length ≤ lim) : P_are_words [.str t, .int lo, .int hi] S = .ok (.bl (decide (lo ≤ t.length) && (decide ((t.length : Int) ≤ hi) && t.all Okc))) S := by
  have hc : dComp (iVal (dVar 0)) (gName 3) [3] tYes (dBin gIn (dVar 3) (dC (.str [97, 98, 99, 100]))) [some (.str t), some (.int lo), some (.int hi), none] S = .ok (.lst ((t.map Okc).map D.bl)) S := by
    rw [comp_pure (ds := signs t) (fun _ => true) (fun d => match d with | .str [c] => .bl (Okc c) | _ => .non) (by simp [iVal, dVar, h]) (by simpa [signs] using h)]
    · rw [filter_true, signs, List.map_map, List.map_map]
      rfl
    · intro d hd
      obtain ⟨c, hc, rfl⟩ := List.mem_map.mp hd
      refine ⟨_, rfl, rfl, fun _ => ?_⟩
      show gIn (.str [c]) (.str [97, 98, 99, 100]) S = _
      simp [gIn, res, subIn, List.isPrefixOf, Okc, Bool.or_assoc]
  have hw : Wp (P_are_words [.str t, .int lo, .int hi] S) (fun d S1 => d = .bl (decide (lo ≤ t.length) && (decide ((t.length : Int) ≤ hi) && t.all Okc)) ∧ S1 = S) fun _ _ => False := by
    unfold P_are_words
    refine w_run ?_
    walk_at "wf all"
    walk_at "wf op"
    walk_at "wf bool"
    walk_at "wf bool"
    walk_at "wf all"
    refine wp_eq (bLen_str h) ?_
    walk_at "wf op"
    refine ⟨_, rfl, fun e1 => ?_, fun e1 => ?_⟩
    · walk_at "wf all"
      walk_at "wf op"
      refine ⟨_, rfl, fun e2 => ?_, fun e2 => ?_⟩
      · refine w_call (w_all1 (wp_eq hc (w_all0 ?_)))
        refine wp_eq bAll_ok ?_
        exact ⟨by rw [e1, e2]; simp [List.all_map], rfl⟩
      · exact ⟨by rw [e1, e2]; rfl, rfl⟩
    · walk_at "wf bool"
      walk_at "wf bool"
      exact ⟨by rw [e1]; rfl, rfl⟩
  obtain ⟨a, S1, e, h1, h2⟩ := hw.ex
  rw [e, h1, h2]
theorem are_words_t {t : Cs} {lo hi : Nat} (h : okt t) (h1 : lo ≤ t.length) (h2 : t.length ≤ hi) (h3 : hi ≤ 1000) : P_are_words [.str t, .int lo, .int hi] S = .ok (.bl true) S := by
  rw [are_words_ok (by simp [lim]; omega)]
  have : t.all Okc = true := by
    rw [List.all_eq_true]
    exact fun c hc => Okc_iff.mpr (h c hc)
  rw [this]
  simp [h1, h2]
theorem is_between_ok {i lo hi : Int} : P_is_between [.int i, .int lo, .int hi] S = .ok (.bl (decide (lo ≤ i) && decide (i ≤ hi))) S := by
  have hw : Wp (P_is_between [.int i, .int lo, .int hi] S) (fun d S1 => d = .bl (decide (lo ≤ i) && decide (i ≤ hi)) ∧ S1 = S) fun _ _ => False := by
    unfold P_is_between
    refine w_run ?_
    walk_at "wf all"
    walk_at "wf op"
    refine ⟨_, rfl, fun _ => ?_, fun z => nomatch z⟩
    walk_at "wf all"
    walk_at "wf op"
    refine ⟨_, rfl, _, rfl, fun _ => ?_, fun z => nomatch z⟩
    walk_at "wf all"
    walk_at "wf op"
    refine ⟨_, rfl, fun e1 => ?_, fun e1 => ?_⟩
    · walk_at "wf all"
      walk_at "wf op"
      exact ⟨by rw [e1]; rfl, rfl⟩
    · exact ⟨by rw [e1]; rfl, rfl⟩
  obtain ⟨a, S1, e, h1, h2⟩ := hw.ex
  rw [e, h1, h2]
theorem one_ok {c : Nat} (h : okc c) : P_are_words [.str [c], .int 1, .int 1] S = .ok (.bl true) S :=
  are_words_t (lo := 1) (hi := 1) (by intro x hx; simp at hx; rw [hx]; exact h) (by simp) (by simp) (by decide)
theorem two_ok {v w : Nat} (hv : okc v) (hw : okc w) {ρ : Env} {x y z : Option D} (hρ : ρ = [x, y, z, none]) :
    compL (gName 3) [3] tYes (dCall P_are_words [(dVar 3), (dC (.int 1)), (dC (.int 1))]) ρ [.str [v], .str [w]] S = .ok [.bl true, .bl true] S := by
  subst hρ
  rw [compL_pure (fun _ => true) (fun _ => .bl true)]
  · rfl
  · intro d hd
    refine ⟨_, rfl, rfl, fun _ => ?_⟩
    have : ∃ c, d = .str [c] ∧ okc c := by
      simp at hd
      rcases hd with e | e
      · exact ⟨v, e, hv⟩
      · exact ⟨w, e, hw⟩
    obtain ⟨c, rfl, hc⟩ := this
    exact one_ok hc
theorem wp_to {α : Type} {r : Res α} {a : α} (h : Wp r (fun d S1 => d = a ∧ S1 = S) fun _ _ => False) : r = .ok a S := by
  obtain ⟨a, S1, e, h1, h2⟩ := h.ex
  rw [e, h1, h2]
theorem is_simple_ok {q : Q} (hw : q.wf) (hs : q.simple) : P_is_simple [q.enc] S = .ok (.bl true) S := by
  refine wp_to ?_
  cases q with
  | word c =>
    unfold P_is_simple
    refine w_run ?_
    walk_at "wf go"
    refine wp_eq (one_ok hw) ?_
    exact ⟨rfl, rfl⟩
  | begin c =>
    unfold P_is_simple
    refine w_run ?_
    walk_at "wf go"
    refine wp_eq (one_ok hw) ?_
    exact ⟨rfl, rfl⟩
  | end_ c =>
    unfold P_is_simple
    refine w_run ?_
    walk_at "wf go"
    refine wp_eq (one_ok hw) ?_
    exact ⟨rfl, rfl⟩
  | row s =>
    unfold P_is_simple
    refine w_run ?_
    walk_at "wf go"
    refine wp_eq (are_words_t (lo := 2) (hi := 3) hw.1 hw.2.1 hw.2.2 (by decide)) ?_
    exact ⟨rfl, rfl⟩
  | often c n =>
    unfold P_is_simple
    refine w_run ?_
    walk_at "wf go"
    refine wp_eq (one_ok hw.1) ?_
    walk_at "wf go"
    refine wp_eq (is_between_ok) ?_
    exact ⟨by have := hw.2.1; have := hw.2.2; simp; omega, rfl⟩
  | near v w g =>
    unfold P_is_simple
    refine w_run ?_
    walk_at "wf go"
    refine ⟨[.str [v], .str [w]], .inr (.inl rfl), rfl, by simp [lim], ?_⟩
    refine wp_eq (two_ok hw.1 hw.2.1 rfl) ?_
    walk_at "wf go"
    refine wp_eq (is_between_ok) ?_
    exact ⟨by have := hw.2.2; simp; omega, rfl⟩
  | before v w g =>
    unfold P_is_simple
    refine w_run ?_
    walk_at "wf go"
    refine ⟨[.str [v], .str [w]], .inr (.inl rfl), rfl, by simp [lim], ?_⟩
    refine wp_eq (two_ok hw.1 hw.2.1 rfl) ?_
    walk_at "wf go"
    refine wp_eq (is_between_ok) ?_
    exact ⟨by have := hw.2.2; simp; omega, rfl⟩
  | not p => exact hs.elim
  | and p q => exact hs.elim
  | or p q => exact hs.elim
theorem is_at_most_ok : ∀ {n d : Nat} {q : Q}, q.wf → q.depth ≤ d → q.depth ≤ n → P_is_at_most n [q.enc, .int d] S = .ok (.bl true) S
  | 0, d, q, _, _, h => by have := q.depth_pos; omega
  | n + 1, 0, q, _, h, _ => by have := q.depth_pos; omega
  | n + 1, d + 1, q, hw, h1, h2 => by
    refine wp_to ?_
    have hlt : ∀ S : Store, gLt (.int ((d + 1 : Nat) : Int)) (.int 1) S = .ok (.bl false) S := fun S => by
      show Res.ok (D.bl (decide (((d + 1 : Nat) : Int) < 1))) S = _
      rw [decide_eq_false (by omega)]
    have hsub : ((d + 1 : Nat) : Int) - 1 = (d : Nat) := by omega
    have simp' : q.simple → ∀ {P : D → Store → Prop}, P (.bl true) S → Wp (P_is_simple [q.enc] S) P fun _ _ => False := fun hs P h => wp_eq (is_simple_ok hw hs) h
    cases q with
    | not p =>
      unfold P_is_at_most
      refine w_run ?_
      walk_at "wf all"
      refine wp_eq (hlt _) ?_
      walk_at "wf go"
      rw [hsub]
      refine wp_eq (is_at_most_ok (q := p) hw (by simp [Q.depth] at h1; omega) (by simp [Q.depth] at h2; omega)) ?_
      exact ⟨rfl, rfl⟩
    | and p q =>
      have hp := is_at_most_ok (n := n) (d := d) (q := p) hw.1 (by simp [Q.depth] at h1; omega) (by simp [Q.depth] at h2; omega)
      have hq := is_at_most_ok (n := n) (d := d) (q := q) hw.2 (by simp [Q.depth] at h1; omega) (by simp [Q.depth] at h2; omega)
      unfold P_is_at_most
      refine w_run ?_
      walk_at "wf all"
      refine wp_eq (hlt _) ?_
      walk_at "wf go"
      refine ⟨[p.enc, q.enc], .inr (.inl rfl), rfl, by simp [lim], ?_⟩
      refine wp_eq (a := [.bl true, .bl true]) (S := S) ?_ ?_
      · rw [compL_pure (fun _ => true) (fun _ => .bl true)]
        · rfl
        · intro x hx
          refine ⟨_, rfl, rfl, fun _ => ?_⟩
          show P_is_at_most n [x, .int (((d + 1 : Nat) : Int) - 1)] S = _
          rw [hsub]
          simp at hx
          rcases hx with e | e <;> rw [e]
          · exact hp
          · exact hq
      · walk_at "wf go"
        exact ⟨rfl, rfl⟩
    | or p q =>
      have hp := is_at_most_ok (n := n) (d := d) (q := p) hw.1 (by simp [Q.depth] at h1; omega) (by simp [Q.depth] at h2; omega)
      have hq := is_at_most_ok (n := n) (d := d) (q := q) hw.2 (by simp [Q.depth] at h1; omega) (by simp [Q.depth] at h2; omega)
      unfold P_is_at_most
      refine w_run ?_
      walk_at "wf all"
      refine wp_eq (hlt _) ?_
      walk_at "wf go"
      refine ⟨[p.enc, q.enc], .inr (.inl rfl), rfl, by simp [lim], ?_⟩
      refine wp_eq (a := [.bl true, .bl true]) (S := S) ?_ ?_
      · rw [compL_pure (fun _ => true) (fun _ => .bl true)]
        · rfl
        · intro x hx
          refine ⟨_, rfl, rfl, fun _ => ?_⟩
          show P_is_at_most n [x, .int (((d + 1 : Nat) : Int) - 1)] S = _
          rw [hsub]
          simp at hx
          rcases hx with e | e <;> rw [e]
          · exact hp
          · exact hq
      · walk_at "wf go"
        exact ⟨rfl, rfl⟩
    | word c =>
      unfold P_is_at_most
      refine w_run ?_
      walk_at "wf all"
      refine wp_eq (hlt _) ?_
      walk_at "wf go"
      exact simp' trivial ⟨rfl, rfl⟩
    | begin c =>
      unfold P_is_at_most
      refine w_run ?_
      walk_at "wf all"
      refine wp_eq (hlt _) ?_
      walk_at "wf go"
      exact simp' trivial ⟨rfl, rfl⟩
    | end_ c =>
      unfold P_is_at_most
      refine w_run ?_
      walk_at "wf all"
      refine wp_eq (hlt _) ?_
      walk_at "wf go"
      exact simp' trivial ⟨rfl, rfl⟩
    | row s =>
      unfold P_is_at_most
      refine w_run ?_
      walk_at "wf all"
      refine wp_eq (hlt _) ?_
      walk_at "wf go"
      exact simp' trivial ⟨rfl, rfl⟩
    | near v w g =>
      unfold P_is_at_most
      refine w_run ?_
      walk_at "wf all"
      refine wp_eq (hlt _) ?_
      walk_at "wf go"
      exact simp' trivial ⟨rfl, rfl⟩
    | before v w g =>
      unfold P_is_at_most
      refine w_run ?_
      walk_at "wf all"
      refine wp_eq (hlt _) ?_
      walk_at "wf go"
      exact simp' trivial ⟨rfl, rfl⟩
    | often c n =>
      unfold P_is_at_most
      refine w_run ?_
      walk_at "wf all"
      refine wp_eq (hlt _) ?_
      walk_at "wf go"
      exact simp' trivial ⟨rfl, rfl⟩
end
end WF


set_option linter.all false
set_option maxRecDepth 100000
/-! # MS: the states of simple questions while a text is read -/
namespace WF
theorem snoc_ind {α : Type} {P : List α → Prop} (h0 : P []) (hs : ∀ t c, P t → P (t ++ [c])) : ∀ t, P t := fun t => by
  have : ∀ n (t : List α), t.length = n → P t := fun n => by
    induction n with
    | zero => intro t ht; rw [List.length_eq_zero_iff.mp ht]; exact h0
    | succ n ih =>
      intro t ht
      rcases List.eq_nil_or_concat t with e | ⟨l, x, e⟩
      · rw [e]; exact h0
      · rw [List.concat_eq_append] at e
        subst e
        exact hs l x (ih l (by simpa using ht))
  exact this _ t rfl
def Fnd : Cs := [33]
/-- the last words of a text -/
def lastN (k : Nat) (t : Cs) : Cs := t.drop (t.length - k)
def st0 : Q → Cs
  | .often _ _ => [48]
  | _ => []
/-- the window's step -/
def wnd (q : Q) (p : Cs) (c : Nat) : Cs := match q with
  | .row s => if p ++ [c] == s then Fnd else lastN (s.length - 1) (p ++ [c])
  | .before v w g => if c == w && p.contains v then Fnd else lastN (g + 1) (p ++ [c])
  | .near v w g => if (c == w && p.contains v) || (c == v && p.contains w) then Fnd else lastN (g + 1) (p ++ [c])
  | _ => []
def stp (q : Q) (p : Cs) (c : Nat) : Cs := match q with
  | .end_ v => if c == v then Fnd else []
  | q => if p == Fnd then p else match q with
    | .word v => if c == v then Fnd else []
    | .begin v => if p == [] && c == v then Fnd else [45]
    | .often v n => match p with
      | [d] => [min n (d - 48 + if c == v then 1 else 0) + 48]
      | _ => []
    | q => wnd q p c
def run (q : Q) (t : Cs) : Cs := t.foldl (stp q) (st0 q)
theorem run_nil {q : Q} : run q [] = st0 q := rfl
theorem run_snoc {q : Q} {t : Cs} {c : Nat} : run q (t ++ [c]) = stp q (run q t) c := by simp [run]
/-- whether the state says found -/
def tru (q : Q) (p : Cs) : Bool := match q with
  | .often _ n => p == [n + 48]
  | _ => p == Fnd
theorem lastN_snoc {k : Nat} {t : Cs} {c : Nat} : lastN (k + 1) (t ++ [c]) = lastN k t ++ [c] := by
  unfold lastN
  rw [List.length_append, List.length_singleton, show t.length + 1 - (k + 1) = t.length - k by omega, List.drop_append_of_le_length (by omega)]
theorem lastN_lastN {j k : Nat} {t : Cs} (h : j ≤ k) : lastN j (lastN k t) = lastN j t := by
  unfold lastN
  rw [List.length_drop, List.drop_drop]
  congr 1
  omega
theorem lastN_len {k : Nat} {t : Cs} : (lastN k t).length = min k t.length := by
  unfold lastN
  rw [List.length_drop]
  omega
theorem lastN_sub {k : Nat} {t : Cs} : ∀ c ∈ lastN k t, c ∈ t := fun c h => List.mem_of_mem_drop h
theorem suffix_last {s t : Cs} : s <:+ t ↔ lastN s.length t = s := by
  rw [List.suffix_iff_eq_drop]
  exact eq_comm
theorem subIn_infix {s : Cs} : ∀ {t : Cs}, subIn s t = true ↔ s <:+: t
  | [] => by simp [subIn]
  | c :: t => by
    unfold subIn
    rw [Bool.or_eq_true, subIn_infix, List.isPrefixOf_iff_prefix, List.infix_cons_iff]
theorem subIn_snoc {s t : Cs} {c : Nat} (hs : s ≠ []) : subIn s (t ++ [c]) = (subIn s t || (lastN (s.length - 1) t ++ [c] == s)) := by
  rw [Bool.eq_iff_iff, Bool.or_eq_true, subIn_infix, subIn_infix, List.infix_concat_iff, suffix_last, beq_iff_eq, or_comm]
  have : s.length - 1 + 1 = s.length := by
    cases s with
    | nil => exact absurd rfl hs
    | cons _ _ => simp
  rw [← lastN_snoc, this]
theorem mem_lastN {k : Nat} {t : Cs} {v : Nat} : v ∈ lastN k t ↔ ∃ i, t[i]? = some v ∧ t.length ≤ i + k := by
  unfold lastN
  rw [List.mem_iff_getElem?]
  constructor
  · rintro ⟨i, h⟩
    rw [List.getElem?_drop] at h
    exact ⟨_, h, by omega⟩
  · rintro ⟨i, h, hk⟩
    refine ⟨i - (t.length - k), ?_⟩
    rw [List.getElem?_drop, show t.length - k + (i - (t.length - k)) = i by omega]
    exact h
theorem lt_of_get {α : Type} {t : List α} {i : Nat} {v : α} (h : t[i]? = some v) : i < t.length := (List.getElem?_eq_some_iff.mp h).1
theorem clo_snoc {t : Cs} {v w g c : Nat} : clo (t ++ [c]) v w g = (clo t v w g || (c == w && (lastN (g + 1) t).contains v)) := by
  rw [Bool.eq_iff_iff, Bool.or_eq_true, Bool.and_eq_true, clo_iff, clo_iff, beq_iff_eq, List.contains_iff_mem, mem_lastN]
  constructor
  · rintro ⟨i, j, h1, h2, h3, h4⟩
    have hj := lt_of_get h2
    rw [List.length_append, List.length_singleton] at hj
    rw [List.getElem?_append_left (by omega)] at h1
    by_cases e : j < t.length
    · rw [List.getElem?_append_left e] at h2
      exact .inl ⟨i, j, h1, h2, h3, h4⟩
    · have : j = t.length := by omega
      subst this
      simp at h2
      exact .inr ⟨h2, i, h1, by omega⟩
  · rintro (⟨i, j, h1, h2, h3, h4⟩ | ⟨rfl, i, h1, h2⟩)
    · exact ⟨i, j, by rw [List.getElem?_append_left (lt_of_get h1)]; exact h1, by rw [List.getElem?_append_left (lt_of_get h2)]; exact h2, h3, h4⟩
    · exact ⟨i, t.length, by rw [List.getElem?_append_left (lt_of_get h1)]; exact h1, by simp, lt_of_get h1, by omega⟩
/-- the state after a text, told at once -/
def stOf : Q → Cs → Cs
  | .word v, t => if t.contains v then Fnd else []
  | .begin v, t => match t with
    | [] => []
    | c :: _ => if c == v then Fnd else [45]
  | .end_ v, t => if t.getLast? == some v then Fnd else []
  | .often v n, t => [min n (t.count v) + 48]
  | .row s, t => if subIn s t then Fnd else lastN (s.length - 1) t
  | .before v w g, t => if clo t v w g then Fnd else lastN (g + 1) t
  | .near v w g, t => if clo t v w g || clo t w v g then Fnd else lastN (g + 1) t
  | _, _ => []
theorem okc33 : ¬ okc 33 := by simp [okc]
theorem okt_snoc {t : Cs} {c : Nat} : okt (t ++ [c]) ↔ okt t ∧ okc c := by
  unfold okt
  constructor
  · intro h
    exact ⟨fun x hx => h x (List.mem_append_left _ hx), h c (by simp)⟩
  · rintro ⟨h1, h2⟩ x hx
    rcases List.mem_append.mp hx with e | e
    · exact h1 x e
    · rw [List.mem_singleton.mp e]; exact h2
theorem okt_app {s t : Cs} : okt (s ++ t) ↔ okt s ∧ okt t := by
  unfold okt
  constructor
  · intro h
    exact ⟨fun x hx => h x (List.mem_append_left _ hx), fun x hx => h x (List.mem_append_right _ hx)⟩
  · rintro ⟨h1, h2⟩ x hx
    rcases List.mem_append.mp hx with e | e
    · exact h1 x e
    · exact h2 x e
theorem okt_nil : okt [] := fun _ h => by simp at h
theorem lastN_ne {k : Nat} {t : Cs} (h : okt t) : (lastN k t == Fnd) = false := by
  rw [beq_eq_false_iff_ne]
  intro e
  have : 33 ∈ lastN k t := by rw [e]; simp [Fnd]
  exact okc33 (h 33 (lastN_sub 33 this))
theorem run_of {q : Q} (hw : q.wf) (hs : q.simple) : ∀ t, okt t → run q t = stOf q t := by
  refine snoc_ind (fun _ => ?_) (fun t c ih h => ?_)
  · rw [run_nil]
    cases q with
    | row s =>
      have : s ≠ [] := by
        intro e
        have := hw.2.1
        rw [e] at this
        simp at this
      have h2 : subIn s [] = false := by
        cases s with
        | nil => exact absurd rfl this
        | cons _ _ => rfl
      simp [stOf, st0, h2, lastN]
    | often v n => simp [stOf, st0]
    | word v => simp [stOf, st0]
    | begin v => simp [stOf, st0]
    | end_ v => simp [stOf, st0]
    | near v w g => simp [stOf, st0, clo, enumFrom, signs, lastN]
    | before v w g => simp [stOf, st0, clo, enumFrom, signs, lastN]
    | not p => exact hs.elim
    | and p q => exact hs.elim
    | or p q => exact hs.elim
  · obtain ⟨ht, hc⟩ := okt_snoc.mp h
    rw [run_snoc, ih ht]
    cases q with
    | word v =>
      by_cases e : v ∈ t
      · simp [stOf, stp, e]
      · by_cases e2 : c = v
        · simp [stOf, stp, e2, Fnd, e]
        · simp [stOf, stp, e2, Fnd, e, Ne.symm e2]
    | begin v =>
      cases t with
      | nil => simp [stOf, stp, Fnd]
      | cons x t =>
        simp only [stOf, stp, List.cons_append]
        by_cases e : x = v
        · simp [e]
        · simp [e, Fnd]
    | end_ v => simp [stOf, stp]
    | often v n =>
      have e0 : (stOf (.often v n) t == Fnd) = false := by simp [stOf, Fnd]
      simp only [stp, e0, Bool.false_eq_true, if_false, stOf]
      by_cases e : c = v
      · subst e
        simp only [List.count_append, List.count_singleton_self, beq_self_eq_true, if_true]
        refine congrArg (fun x => [x]) ?_
        omega
      · have e2 : List.count v [c] = 0 := by rw [List.count_singleton]; simp [e]
        have e3 : (c == v) = false := by simpa using e
        simp only [List.count_append, e2, e3, Bool.false_eq_true, if_false]
        refine congrArg (fun x => [x]) ?_
        omega
    | row s =>
      have hne : s ≠ [] := by
        intro e
        have := hw.2.1
        rw [e] at this
        simp at this
      have hlen := hw.2.1
      cases e : subIn s t with
      | true => simp [stOf, stp, subIn_snoc hne, e]
      | false =>
        have e0 : stOf (.row s) t = lastN (s.length - 1) t := by simp [stOf, e]
        rw [e0]
        simp only [stp, stOf, subIn_snoc hne, e, Bool.false_or, lastN_ne ht, Bool.false_eq_true, if_false, wnd]
        by_cases e2 : (lastN (s.length - 1) t ++ [c] == s) = true
        · rw [if_pos e2, if_pos e2]
        · rw [if_neg e2, if_neg e2, ← lastN_snoc, lastN_lastN (by omega)]
    | before v w g =>
      cases e : clo t v w g with
      | true => simp [stOf, stp, clo_snoc, e]
      | false =>
        have e0 : stOf (.before v w g) t = lastN (g + 1) t := by simp [stOf, e]
        rw [e0]
        simp only [stp, stOf, clo_snoc, e, Bool.false_or, lastN_ne ht, Bool.false_eq_true, if_false, wnd]
        by_cases e2 : (c == w && (lastN (g + 1) t).contains v) = true
        · rw [if_pos e2, if_pos e2]
        · rw [if_neg e2, if_neg e2, ← lastN_snoc, lastN_lastN (by omega)]
    | near v w g =>
      cases e : clo t v w g with
      | true => simp [stOf, stp, clo_snoc, e]
      | false =>
        cases e' : clo t w v g with
        | true => simp [stOf, stp, clo_snoc, e, e']
        | false =>
          have e0 : stOf (.near v w g) t = lastN (g + 1) t := by simp [stOf, e, e']
          rw [e0]
          simp only [stp, stOf, clo_snoc, e, e', Bool.false_or, lastN_ne ht, Bool.false_eq_true, if_false, wnd]
          by_cases e2 : (c == w && (lastN (g + 1) t).contains v || c == v && (lastN (g + 1) t).contains w) = true
          · rw [if_pos e2, if_pos e2]
          · rw [if_neg e2, if_neg e2, ← lastN_snoc, lastN_lastN (by omega)]
    | not p => exact hs.elim
    | and p q => exact hs.elim
    | or p q => exact hs.elim
theorem ite_fnd {b : Bool} {x : Cs} (h : (x == Fnd) = false) : ((if b = true then Fnd else x) == Fnd) = b := by
  cases b
  · simpa using h
  · simp
/-- the state tells what is found -/
theorem tru_of {q : Q} {t : Cs} (hw : q.wf) (hs : q.simple) (ht : okt t) : tru q (run q t) = q.ev t := by
  rw [run_of hw hs t ht]
  cases q with
  | word v =>
    simp only [tru, stOf, Q.ev, subIn_one]
    exact ite_fnd rfl
  | begin v =>
    simp only [tru, Q.ev, cut0]
    cases t with
    | nil => rfl
    | cons x t =>
      simp only [stOf]
      rw [ite_fnd rfl]
      simp
  | end_ v =>
    simp only [tru, stOf, Q.ev, cutE]
    rw [ite_fnd rfl]
    cases t.getLast? <;> simp
  | often v n =>
    simp only [tru, stOf, Q.ev]
    rw [Bool.eq_iff_iff]
    simp
    omega
  | row s =>
    simp only [tru, stOf, Q.ev]
    exact ite_fnd (lastN_ne ht)
  | before v w g =>
    simp only [tru, stOf, Q.ev]
    exact ite_fnd (lastN_ne ht)
  | near v w g =>
    simp only [tru, stOf, Q.ev]
    rw [ite_fnd (lastN_ne ht), Bool.or_comm]
  | not p => exact hs.elim
  | and p q => exact hs.elim
  | or p q => exact hs.elim
end WF


set_option linter.all false
set_option maxRecDepth 100000
/-! # MWq: more steps -/
namespace WF
section
variable {S : Store}
theorem dAnd_bl {a b : FE} {ρ : Env} {x y : Bool} (h1 : a ρ S = .ok (.bl x) S) (h2 : x = true → b ρ S = .ok (.bl y) S) : dAnd a b ρ S = .ok (.bl (x && y)) S := by
  unfold dAnd
  rw [h1]
  cases x with
  | true => simpa using h2 rfl
  | false => rfl
theorem dOr_bl {a b : FE} {ρ : Env} {x y : Bool} (h1 : a ρ S = .ok (.bl x) S) (h2 : x = false → b ρ S = .ok (.bl y) S) : dOr a b ρ S = .ok (.bl (x || y)) S := by
  unfold dOr
  rw [h1]
  cases x with
  | false => simpa using h2 rfl
  | true => rfl
theorem dNot_bl {a : FE} {ρ : Env} {x : Bool} (h1 : a ρ S = .ok (.bl x) S) : dNot a ρ S = .ok (.bl (!x)) S := by
  unfold dNot
  rw [h1]
  rfl
theorem dBin_v {g : D → D → M D} {i j : Nat} {ρ : Env} {x y : D} {r : Res D} (h1 : ρ[i]? = some (some x)) (h2 : ρ[j]? = some (some y)) (h : g x y S = r) : dBin g (dVar i) (dVar j) ρ S = r := by
  simp [dBin, dVar, h1, h2, h]
theorem dBin_vc {g : D → D → M D} {i : Nat} {ρ : Env} {x y : D} {r : Res D} (h1 : ρ[i]? = some (some x)) (h : g x y S = r) : dBin g (dVar i) (dC y) ρ S = r := by
  simp [dBin, dVar, dC, h1, h]
theorem beq_one {a b : Nat} : (([a] : Cs) == [b]) = (a == b) := by simp
theorem gEq_str' {a b : Cs} : gEq (.str a) (.str b) S = .ok (.bl (a == b)) S := by simp [gEq, res, D.plain, D.depth, D.eqv]
theorem gIn_str {v : Nat} {p : Cs} : gIn (.str [v]) (.str p) S = .ok (.bl (p.contains v)) S := by
  simp [gIn, res, subIn_one]
theorem gAdd_str {a b : Cs} (h : a.length + b.length ≤ lim) : gAdd (.str a) (.str b) S = .ok (.str (a ++ b)) S := by
  unfold gAdd
  dsimp only
  rw [if_pos h]
theorem cut_last {k : Nat} (hk : 0 < k) {t : Cs} : cut t (some (-(k : Int))) none = lastN k t := by
  unfold cut lastN
  have e : sIx t.length 0 (some (-(k : Int))) = t.length - k := by
    unfold sIx
    dsimp only
    rw [if_pos (by omega)]
    omega
  rw [e]
  show (t.drop (t.length - k)).take (t.length - (t.length - k)) = _
  rw [List.take_of_length_le (by rw [List.length_drop]; omega)]
theorem gSlice_last {k : Nat} (hk : 0 < k) {t : Cs} (ht : t.length ≤ lim) : gSlice (.str t) (some (-(k : Int))) none S = .ok (.str (lastN k t)) S := by
  unfold gSlice
  dsimp only [res]
  rw [if_pos ht, cut_last hk]
end
end WF
local macro_rules | `(tactic| walk_at "wf go1") => `(tactic| repeat (first | walk_at "wf one0" | with_reducible refine WF.wp_eq WF.gEq_str' ?_ | with_reducible refine WF.wp_eq WF.gIn_str ?_ | refine WF.wp_eq rfl ?_ | walk_at "wf bool"))

set_option linter.all false
set_option maxRecDepth 100000
/-! # MB: how many states there are; keys of dicts -/
namespace WF
/-- the texts of so many words, in order -/
def txs : Nat → List Cs
  | 0 => [[]]
  | n + 1 => (txs n).flatMap fun t => [t ++ [97], t ++ [98], t ++ [99], t ++ [100]]
theorem mem_txs : ∀ {n : Nat} {t : Cs}, t ∈ txs n ↔ okt t ∧ t.length = n
  | 0, t => by
    simp only [txs, List.mem_singleton]
    constructor
    · rintro rfl; exact ⟨okt_nil, rfl⟩
    · rintro ⟨_, h⟩; exact List.length_eq_zero_iff.mp h
  | n + 1, t => by
    simp only [txs, List.mem_flatMap]
    constructor
    · rintro ⟨u, hu, h⟩
      obtain ⟨h1, h2⟩ := mem_txs.mp hu
      have : ∃ c, okc c ∧ t = u ++ [c] := by
        simp at h
        rcases h with h | h | h | h
        · exact ⟨97, .inl rfl, h⟩
        · exact ⟨98, .inr (.inl rfl), h⟩
        · exact ⟨99, .inr (.inr (.inl rfl)), h⟩
        · exact ⟨100, .inr (.inr (.inr rfl)), h⟩
      obtain ⟨c, hc, rfl⟩ := this
      exact ⟨okt_snoc.mpr ⟨h1, hc⟩, by simp [h2]⟩
    · rintro ⟨h1, h2⟩
      rcases List.eq_nil_or_concat t with e | ⟨u, c, e⟩
      · rw [e] at h2; simp at h2
      · rw [List.concat_eq_append] at e
        subst e
        obtain ⟨h3, h4⟩ := okt_snoc.mp h1
        refine ⟨u, mem_txs.mpr ⟨h3, by simpa using h2⟩, ?_⟩
        rcases h4 with h | h | h | h <;> subst h <;> simp
theorem txs_len : ∀ n, (txs n).length = 4 ^ n
  | 0 => rfl
  | n + 1 => by
    have : ∀ l : List Cs, (l.flatMap fun t => [t ++ [97], t ++ [98], t ++ [99], t ++ [100]]).length = 4 * l.length := fun l => by
      induction l with
      | nil => rfl
      | cons t l ih => rw [List.flatMap_cons, List.length_append, ih]; simp; omega
    rw [txs, this, txs_len n, Nat.pow_succ]
    omega
def txs3 : List Cs := txs 0 ++ txs 1 ++ txs 2 ++ txs 3
theorem txs3_len : txs3.length = 85 := by
  simp [txs3, txs_len]
theorem mem_txs3 {t : Cs} (h : okt t) (hl : t.length ≤ 3) : t ∈ txs3 := by
  simp only [txs3, List.mem_append, mem_txs]
  have : t.length = 0 ∨ t.length = 1 ∨ t.length = 2 ∨ t.length = 3 := by omega
  rcases this with e | e | e | e
  · exact .inl (.inl (.inl ⟨h, e⟩))
  · exact .inl (.inl (.inr ⟨h, e⟩))
  · exact .inl (.inr ⟨h, e⟩)
  · exact .inr ⟨h, e⟩
/-- all lists of so many of some things -/
def lists {α : Type} (m : List α) : Nat → List (List α)
  | 0 => [[]]
  | n + 1 => m.flatMap fun x => (lists m n).map (x :: ·)
theorem mem_lists {α : Type} {m : List α} : ∀ {n : Nat} {l : List α}, l.length = n → (∀ x ∈ l, x ∈ m) → l ∈ lists m n
  | 0, l, h, _ => by simp [lists, List.length_eq_zero_iff.mp h]
  | n + 1, [], h, _ => by simp at h
  | n + 1, x :: l, h, hm => by
    simp only [lists, List.mem_flatMap, List.mem_map]
    exact ⟨x, hm x (List.mem_cons_self ..), l, mem_lists (by simpa using h) (fun y hy => hm y (List.mem_cons_of_mem _ hy)), rfl⟩
theorem lists_len {α : Type} {m : List α} : ∀ {n : Nat}, (lists m n).length = m.length ^ n
  | 0 => rfl
  | n + 1 => by
    have : ∀ (k : List α) (L : List (List α)), (k.flatMap fun x => L.map (x :: ·)).length = k.length * L.length := fun k L => by
      induction k with
      | nil => simp
      | cons x k ih => rw [List.flatMap_cons, List.length_append, ih, List.length_map, List.length_cons, Nat.succ_mul]; omega
    rw [lists, this, lists_len, Nat.pow_succ, Nat.mul_comm]
/-- a part's flag: found, or how often -/
def flg (q : Q) (t : Cs) : Nat := match q with
  | .often v n => min n (t.count v)
  | q => if stOf q t == Fnd then 1 else 0
def dcp (q : Q) (w : Cs) (f : Nat) : Cs := match q with
  | .often v n => [f + 48]
  | .word v => if f = 1 then Fnd else []
  | .end_ v => if f = 1 then Fnd else []
  | .begin v => if f = 1 then Fnd else if w = [] then [] else [45]
  | .row s => if f = 1 then Fnd else lastN (s.length - 1) w
  | .before v _ g => if f = 1 then Fnd else lastN (g + 1) w
  | .near v _ g => if f = 1 then Fnd else lastN (g + 1) w
  | _ => []
theorem lastN_nil {k : Nat} {t : Cs} : lastN (k + 1) t = [] ↔ t = [] := by
  constructor
  · intro h
    have := lastN_len (k := k + 1) (t := t)
    rw [h] at this
    simp at this
    exact List.length_eq_zero_iff.mp (by omega)
  · rintro rfl; simp [lastN]
theorem dcp_of {q : Q} {t : Cs} (hw : q.wf) (hs : q.simple) (ht : okt t) : run q t = dcp q (lastN 3 t) (flg q t) := by
  rw [run_of hw hs t ht]
  cases q with
  | often v n => rfl
  | word v => by_cases e : t.contains v = true <;> simp only [stOf, dcp, flg, e] <;> rfl
  | end_ v => by_cases e : (t.getLast? == some v) = true <;> simp only [stOf, dcp, flg, e] <;> rfl
  | begin v =>
    cases t with
    | nil => rfl
    | cons x t =>
      by_cases e : (x == v) = true
      · simp only [stOf, dcp, flg, e]; rfl
      · have : ¬ lastN 3 (x :: t) = [] := by rw [lastN_nil]; simp
        simp only [stOf, dcp, flg, e, this]; rfl
  | row s =>
    have := hw.2.2
    cases e : subIn s t with
    | true => simp only [stOf, dcp, flg, e]; rfl
    | false => simp only [stOf, dcp, flg, e, Bool.false_eq_true, if_false, lastN_ne ht, if_neg (show ¬ (0 : Nat) = 1 by decide), lastN_lastN (show s.length - 1 ≤ 3 by omega)]
  | before v w g =>
    have := hw.2.2
    cases e : clo t v w g with
    | true => simp only [stOf, dcp, flg, e]; rfl
    | false => simp only [stOf, dcp, flg, e, Bool.false_eq_true, if_false, lastN_ne ht, if_neg (show ¬ (0 : Nat) = 1 by decide), lastN_lastN (show g + 1 ≤ 3 by omega)]
  | near v w g =>
    have := hw.2.2
    cases e : (clo t v w g || clo t w v g) with
    | true => simp only [stOf, dcp, flg, e]; rfl
    | false => simp only [stOf, dcp, flg, e, Bool.false_eq_true, if_false, lastN_ne ht, if_neg (show ¬ (0 : Nat) = 1 by decide), lastN_lastN (show g + 1 ≤ 3 by omega)]
  | not p => exact hs.elim
  | and p q => exact hs.elim
  | or p q => exact hs.elim
theorem flg_lt {q : Q} {t : Cs} (hw : q.wf) : flg q t ∈ [0, 1, 2, 3] := by
  have : flg q t ≤ 3 := by
    cases q with
    | often v n => have := hw.2.2; simp only [flg]; omega
    | _ => simp only [flg]; split <;> omega
  have : flg q t = 0 ∨ flg q t = 1 ∨ flg q t = 2 ∨ flg q t = 3 := by omega
  simpa using this
/-- what stands in a reader's list -/
def Sims (sim : List Q) : Prop := ∀ q ∈ sim, q.wf ∧ q.simple
/-- the state of all after a text -/
def sts (sim : List Q) (t : Cs) : List Cs := sim.map fun q => run q t
def stpA (sim : List Q) (ps : List Cs) (c : Nat) : List Cs := List.zipWith (fun q p => stp q p c) sim ps
theorem sts_snoc {sim : List Q} {t : Cs} {c : Nat} : sts sim (t ++ [c]) = stpA sim (sts sim t) c := by
  unfold sts stpA
  induction sim with
  | nil => rfl
  | cons q sim ih => rw [List.map_cons, List.map_cons, List.zipWith_cons_cons, run_snoc, ih]
theorem sts_ext {sim : List Q} {t u : Cs} (h : sts sim t = sts sim u) : ∀ w : Cs, sts sim (t ++ w) = sts sim (u ++ w) := by
  refine snoc_ind ?_ fun w c ih => ?_
  · simpa using h
  · rw [← List.append_assoc, ← List.append_assoc, sts_snoc, sts_snoc, ih]
def dcs (sim : List Q) (x : Cs × List Nat) : List Cs := List.zipWith (fun q f => dcp q x.1 f) sim x.2
theorem dcs_of {sim : List Q} {t : Cs} (hs : Sims sim) (ht : okt t) : sts sim t = dcs sim (lastN 3 t, sim.map fun q => flg q t) := by
  unfold sts dcs
  have : ∀ (w : Cs), w = lastN 3 t → (∀ q ∈ sim, q.wf ∧ q.simple) → sim.map (fun q => run q t) = List.zipWith (fun q f => dcp q w f) sim (sim.map fun q => flg q t) := fun w hw hq => by
    subst hw
    induction sim with
    | nil => rfl
    | cons q sim ih =>
      have h1 := hq q (List.mem_cons_self ..)
      rw [List.map_cons, List.map_cons, List.zipWith_cons_cons, dcp_of h1.1 h1.2 ht, ih (fun x hx => hs x (List.mem_cons_of_mem _ hx)) fun x hx => hq x (List.mem_cons_of_mem _ hx)]
  exact this _ rfl hs
/-- all that a state may be -/
def allS (sim : List Q) : List (List Cs) := (txs3.flatMap fun w => (lists [0, 1, 2, 3] sim.length).map fun f => (w, f)).map (dcs sim)
theorem allS_len {sim : List Q} : (allS sim).length = 85 * 4 ^ sim.length := by
  have : ∀ (k : List Cs) (L : List (List Nat)), (k.flatMap fun w => L.map fun f => (w, f)).length = k.length * L.length := fun k L => by
    induction k with
    | nil => simp
    | cons x k ih => rw [List.flatMap_cons, List.length_append, ih, List.length_map, List.length_cons, Nat.succ_mul]; omega
  rw [allS, List.length_map, this, lists_len, txs3_len]
  rfl
theorem mem_allS {sim : List Q} {t : Cs} (hs : Sims sim) (ht : okt t) : sts sim t ∈ allS sim := by
  unfold allS
  rw [dcs_of hs ht]
  refine List.mem_map_of_mem (List.mem_flatMap.mpr ⟨lastN 3 t, mem_txs3 (fun c hc => ht c (lastN_sub c hc)) (by rw [lastN_len]; omega), List.mem_map_of_mem (mem_lists (by simp) fun f hf => ?_)⟩)
  obtain ⟨q, hq, rfl⟩ := List.mem_map.mp hf
  exact flg_lt (hs q hq).1
theorem sts_bound {sim : List Q} (hs : Sims sim) {l : List (List Cs)} (nd : l.Nodup) (h : ∀ ps ∈ l, ∃ t, okt t ∧ ps = sts sim t) : l.length ≤ 85 * 4 ^ sim.length := by
  rw [← allS_len]
  refine nd.length_le_of_subset fun ps hp => ?_
  obtain ⟨t, ht, rfl⟩ := h ps hp
  exact mem_allS hs ht
theorem step_bound {sim : List Q} (hs : Sims sim) {l : List (List Cs × Nat)} (nd : l.Nodup) (h : ∀ p ∈ l, okc p.2 ∧ ∃ t, okt t ∧ p.1 = sts sim t) : l.length ≤ 4 * (85 * 4 ^ sim.length) := by
  have e : ((allS sim).flatMap fun s => [(s, 97), (s, 98), (s, 99), (s, 100)]).length = 4 * (85 * 4 ^ sim.length) := by
    rw [← allS_len]
    generalize allS sim = k
    induction k with
    | nil => rfl
    | cons x k ih => rw [List.flatMap_cons, List.length_append, ih]; simp; omega
  rw [← e]
  refine nd.length_le_of_subset fun p hp => ?_
  obtain ⟨hc, t, ht, h1⟩ := h p hp
  refine List.mem_flatMap.mpr ⟨p.1, by rw [h1]; exact mem_allS hs ht, ?_⟩
  obtain ⟨s, c⟩ := p
  rcases hc with e | e | e | e <;> (have e : c = _ := e; subst e; simp)
/-! ### keys -/
mutual
theorem kb_eq : ∀ {a b : D}, a.kb b = true → a = b
  | .non, b, h => by cases b <;> simp [D.kb] at h ⊢
  | .int i, b, h => by cases b <;> simp [D.kb] at h ⊢; exact h
  | .str i, b, h => by cases b <;> simp [D.kb] at h ⊢; exact h
  | .tup ds, b, h => by
    cases b with
    | tup es =>
      simp only [D.kb] at h
      rw [kbs_eq h]
    | _ => simp [D.kb] at h
  | .bl _, b, h => by simp [D.kb] at h
  | .lst _, b, h => by simp [D.kb] at h
  | .loc _, b, h => by simp [D.kb] at h
  | .fn _ _, b, h => by simp [D.kb] at h
  | .exc _, b, h => by simp [D.kb] at h
theorem kbs_eq : ∀ {a b : List D}, D.kbs a b = true → a = b
  | [], b, h => by cases b <;> simp [D.kbs] at h ⊢
  | a :: r, b, h => by
    cases b with
    | nil => simp [D.kbs] at h
    | cons b t =>
      simp only [D.kbs, Bool.and_eq_true] at h
      rw [kb_eq h.1, kbs_eq h.2]
end
mutual
theorem kb_refl : ∀ {a : D}, a.isKey = true → a.kb a = true
  | .non, h => rfl
  | .int i, h => by simp [D.kb]
  | .str i, h => by simp [D.kb]
  | .tup ds, h => by
    simp only [D.isKey] at h
    simp only [D.kb]
    exact kbs_refl h
  | .bl _, h => by simp [D.isKey] at h
  | .lst _, h => by simp [D.isKey] at h
  | .loc _, h => by simp [D.isKey] at h
  | .fn _ _, h => by simp [D.isKey] at h
  | .exc _, h => by simp [D.isKey] at h
theorem kbs_refl : ∀ {a : List D}, D.areKeys a = true → D.kbs a a = true
  | [], _ => rfl
  | a :: r, h => by
    simp only [D.areKeys, Bool.and_eq_true] at h
    simp only [D.kbs, Bool.and_eq_true]
    exact ⟨kb_refl h.1, kbs_refl h.2⟩
end
theorem okKey_kb {a : D} (h : a.okKey = true) : a.kb a = true := by
  cases a with
  | tup ds =>
    simp only [D.okKey, Bool.and_eq_true] at h
    exact kb_refl (by simpa [D.isKey] using h.1)
  | _ => simp [D.okKey] at h
/-- a dict that is a plain table: keys by an injective naming -/
theorem getKD_map {α : Type} [DecidableEq α] {k : α → D} {v : α → D} (hi : ∀ a b, k a = k b → a = b) {a : α} (hk : (k a).okKey = true) : ∀ {l : List α}, getKD (l.map fun x => (k x, v x)) (k a) = if a ∈ l then some (v a) else none
  | [] => by simp [getKD]
  | x :: l => by
    rw [List.map_cons]
    unfold getKD
    by_cases e : (k x).kb (k a) = true
    · rw [if_pos e]
      have := hi _ _ (kb_eq e)
      subst this
      simp
    · rw [if_neg e, getKD_map hi hk]
      have : a ≠ x := fun z => e (by rw [z] at hk ⊢; exact okKey_kb hk)
      by_cases e2 : a ∈ l <;> simp [e2, this]
theorem setKD_map {α : Type} {k : α → D} {v : α → D} (hi : ∀ a b, k a = k b → a = b) {a : α} : ∀ {l : List α}, a ∉ l → setKD (l.map fun x => (k x, v x)) (k a) (v a) = (l ++ [a]).map fun x => (k x, v x)
  | [], _ => rfl
  | x :: l, h => by
    rw [List.map_cons]
    unfold setKD
    have e : ¬ (k x).kb (k a) = true := fun e => h (by rw [hi _ _ (kb_eq e)]; exact List.mem_cons_self ..)
    rw [if_neg e, setKD_map hi (fun z => h (List.mem_cons_of_mem _ z))]
    simp
end WF


set_option linter.all false
set_option maxRecDepth 100000
/-! # MEnc: equality of questions as data; dicts; walks over lists that may change -/
namespace WF
mutual
theorem eqv_key : ∀ {a b : D}, a.isKey = true → b.isKey = true → a.eqv b = true → a = b
  | .non, b, _, hb, h => by cases b <;> simp [D.eqv, D.isKey] at hb h ⊢
  | .int i, b, _, hb, h => by cases b <;> simp [D.eqv, D.isKey] at hb h ⊢; exact h
  | .str i, b, _, hb, h => by cases b <;> simp [D.eqv, D.isKey] at hb h ⊢; exact h
  | .tup ds, b, ha, hb, h => by
    cases b with
    | tup es =>
      simp only [D.eqv] at h
      simp only [D.isKey] at ha hb
      rw [eqvs_key ha hb h]
    | _ => simp [D.eqv] at h
  | .bl _, b, h, _, _ => by simp [D.isKey] at h
  | .lst _, b, h, _, _ => by simp [D.isKey] at h
  | .loc _, b, h, _, _ => by simp [D.isKey] at h
  | .fn _ _, b, h, _, _ => by simp [D.isKey] at h
  | .exc _, b, h, _, _ => by simp [D.isKey] at h
theorem eqvs_key : ∀ {a b : List D}, D.areKeys a = true → D.areKeys b = true → D.eqvs a b = true → a = b
  | [], b, _, _, h => by cases b <;> simp [D.eqvs] at h ⊢
  | a :: r, b, ha, hb, h => by
    cases b with
    | nil => simp [D.eqvs] at h
    | cons b t =>
      simp only [D.eqvs, D.areKeys, Bool.and_eq_true] at h ha hb
      rw [eqv_key ha.1 hb.1 h.1, eqvs_key ha.2 hb.2 h.2]
end
mutual
theorem eqv_refl : ∀ {a : D}, a.isKey = true → a.eqv a = true
  | .non, _ => rfl
  | .int i, _ => by simp [D.eqv]
  | .str i, _ => by simp [D.eqv]
  | .tup ds, h => by
    simp only [D.isKey] at h
    simp only [D.eqv]
    exact eqvs_refl h
  | .bl _, h => by simp [D.isKey] at h
  | .lst _, h => by simp [D.isKey] at h
  | .loc _, h => by simp [D.isKey] at h
  | .fn _ _, h => by simp [D.isKey] at h
  | .exc _, h => by simp [D.isKey] at h
theorem eqvs_refl : ∀ {a : List D}, D.areKeys a = true → D.eqvs a a = true
  | [], _ => rfl
  | a :: r, h => by
    simp only [D.areKeys, Bool.and_eq_true] at h
    simp only [D.eqvs, Bool.and_eq_true]
    exact ⟨eqv_refl h.1, eqvs_refl h.2⟩
end
mutual
theorem key_plain : ∀ {a : D}, a.isKey = true → a.plain = true
  | .non, _ => rfl
  | .int i, _ => rfl
  | .str i, _ => rfl
  | .tup ds, h => by
    simp only [D.isKey] at h
    simp only [D.plain]
    exact keys_plain h
  | .bl _, h => by simp [D.isKey] at h
  | .lst _, h => by simp [D.isKey] at h
  | .loc _, h => by simp [D.isKey] at h
  | .fn _ _, h => by simp [D.isKey] at h
  | .exc _, h => by simp [D.isKey] at h
theorem keys_plain : ∀ {a : List D}, D.areKeys a = true → D.plains a = true
  | [], _ => rfl
  | a :: r, h => by
    simp only [D.areKeys, Bool.and_eq_true] at h
    simp only [D.plains, Bool.and_eq_true]
    exact ⟨key_plain h.1, keys_plain h.2⟩
end
theorem enc_key : ∀ q : Q, q.enc.isKey = true
  | .word _ | .begin _ | .end_ _ | .row _ | .near _ _ _ | .before _ _ _ | .often _ _ => rfl
  | .not p => by simp [Q.enc, D.isKey, D.areKeys, enc_key p]
  | .and p q => by simp [Q.enc, D.isKey, D.areKeys, enc_key p, enc_key q]
  | .or p q => by simp [Q.enc, D.isKey, D.areKeys, enc_key p, enc_key q]
theorem enc_inj : ∀ {p q : Q}, p.enc = q.enc → p = q := fun {p} => by
  induction p with
  | not p ih => intro q h; cases q <;> simp [Q.enc] at h ⊢; exact ih h
  | and p q ih1 ih2 => intro q h; cases q <;> simp [Q.enc] at h ⊢; exact ⟨ih1 h.1, ih2 h.2⟩
  | or p q ih1 ih2 => intro q h; cases q <;> simp [Q.enc] at h ⊢; exact ⟨ih1 h.1, ih2 h.2⟩
  | _ => intro q h; cases q <;> simp [Q.enc] at h ⊢ <;> omega
theorem enc_depth : ∀ q : Q, q.enc.depth = q.depth
  | .word _ | .begin _ | .end_ _ | .row _ | .near _ _ _ | .before _ _ _ | .often _ _ => rfl
  | .not p => by simp [Q.enc, D.depth, D.depths, enc_depth p, Q.depth]
  | .and p q => by simp [Q.enc, D.depth, D.depths, enc_depth p, enc_depth q, Q.depth]
  | .or p q => by simp [Q.enc, D.depth, D.depths, enc_depth p, enc_depth q, Q.depth]
theorem okc_lt {c : Nat} (h : okc c) : c < 128 := by
  rcases h with h | h | h | h <;> subst h <;> decide
/-- its words below 128 -/
theorem enc_ascii {q : Q} (h : q.wf) : q.enc.ascii = true := by
  induction q with
  | word c => simpa [Q.enc, D.ascii, D.asciis] using okc_lt h
  | begin c => simpa [Q.enc, D.ascii, D.asciis] using okc_lt h
  | end_ c => simpa [Q.enc, D.ascii, D.asciis] using okc_lt h
  | often c n => simpa [Q.enc, D.ascii, D.asciis] using okc_lt h.1
  | near c n g => simpa [Q.enc, D.ascii, D.asciis] using And.intro (okc_lt h.1) (okc_lt h.2.1)
  | before c n g => simpa [Q.enc, D.ascii, D.asciis] using And.intro (okc_lt h.1) (okc_lt h.2.1)
  | row s => simpa [Q.enc, D.ascii, D.asciis] using fun c hc => okc_lt (h.1 c hc)
  | not p ih =>
    have h1 := ih h
    simp only [Q.enc, D.ascii, D.asciis, h1, Bool.and_true]
    rfl
  | and p q ih1 ih2 =>
    have h1 := ih1 h.1
    have h2 := ih2 h.2
    simp only [Q.enc, D.ascii, D.asciis, h1, h2, Bool.and_true]
    rfl
  | or p q ih1 ih2 =>
    have h1 := ih1 h.1
    have h2 := ih2 h.2
    simp only [Q.enc, D.ascii, D.asciis, h1, h2, Bool.and_true]
    rfl
instance : DecidableEq Q := fun p q => by
  cases h : p.enc.eqv q.enc with
  | true => exact isTrue (enc_inj (eqv_key (enc_key p) (enc_key q) h))
  | false => exact isFalse fun e => by rw [e, eqv_refl (enc_key q)] at h; cases h
theorem enc_eqv {p q : Q} : p.enc.eqv q.enc = decide (p = q) := by
  rw [Bool.eq_iff_iff, decide_eq_true_iff]
  exact ⟨fun h => enc_inj (eqv_key (enc_key p) (enc_key q) h), fun h => by rw [h]; exact eqv_refl (enc_key q)⟩
theorem plains_enc : ∀ l : List Q, D.plains (l.map Q.enc) = true
  | [] => rfl
  | q :: l => by simp [D.plains, key_plain (enc_key q), plains_enc l]
theorem any_enc {q : Q} : ∀ {l : List Q}, (l.map Q.enc).any (fun y => y.eqv q.enc) = decide (q ∈ l)
  | [] => by simp
  | p :: l => by
    rw [List.map_cons, List.any_cons, any_enc, enc_eqv, Bool.eq_iff_iff]
    simp only [Bool.or_eq_true, decide_eq_true_iff, List.mem_cons]
    exact ⟨fun h => h.imp Eq.symm id, fun h => h.imp Eq.symm id⟩
/-! ### dicts -/
theorem getKD_mem {x d : D} : ∀ {kvs : List (D × D)}, getKD kvs x = some d → (x, d) ∈ kvs
  | [], h => by simp [getKD] at h
  | (k, e) :: r, h => by
    unfold getKD at h
    split at h
    · rename_i q
      cases h
      rw [kb_eq q]
      exact List.mem_cons_self ..
    · exact List.mem_cons_of_mem _ (getKD_mem h)
theorem getKD_none {x : D} (hx : x.okKey = true) : ∀ {kvs : List (D × D)}, getKD kvs x = none → x ∉ kvs.map (·.1)
  | [], _ => by simp
  | (k, e) :: r, h => by
    unfold getKD at h
    split at h
    · cases h
    · rename_i q
      intro hm
      rcases List.mem_cons.mp hm with z | z
      · have z : x = k := z
        subst z
        exact q (okKey_kb hx)
      · exact getKD_none hx h z
theorem setKD_new {x d : D} : ∀ {kvs : List (D × D)}, getKD kvs x = none → setKD kvs x d = kvs ++ [(x, d)]
  | [], _ => rfl
  | (k, e) :: r, h => by
    unfold getKD at h
    unfold setKD
    split at h
    · cases h
    · rename_i q
      rw [if_neg q, setKD_new h]
      rfl
theorem getKD_app {x d : D} (hx : x.okKey = true) : ∀ {kvs : List (D × D)}, getKD kvs x = none → getKD (kvs ++ [(x, d)]) x = some d
  | [], _ => by simp [getKD, okKey_kb hx]
  | (k, e) :: r, h => by
    unfold getKD at h
    rw [List.cons_append]
    unfold getKD
    split at h
    · cases h
    · rename_i q
      rw [if_neg q]
      exact getKD_app hx h
section
variable {S : Store} {n : Nat} {kvs : List (D × D)} {a d : D}
theorem gKIn_ok (h : S[n]? = some (.dict kvs)) (ha : a.okKey = true) : gKIn a (.loc n) S = .ok (.bl (getKD kvs a).isSome) S := by
  simp only [gKIn, dictOf, h, ha, if_true]
theorem gKNotIn_ok (h : S[n]? = some (.dict kvs)) (ha : a.okKey = true) : gKNotIn a (.loc n) S = .ok (.bl (!(getKD kvs a).isSome)) S := by
  simp only [gKNotIn, dictOf, h, ha, if_true]
theorem gKIdx_ok (h : S[n]? = some (.dict kvs)) (ha : a.okKey = true) (hd : getKD kvs a = some d) : gKIdx (.loc n) a S = .ok d S := by
  simp only [gKIdx, dictOf, h, ha, if_true, hd]
theorem setKAt_ok (h : S[n]? = some (.dict kvs)) (ha : a.okKey = true) (hl : kvs.length < lim) : setKAt (.loc n) a d S = .ok () (S.set n (.dict (setKD kvs a d))) := by
  simp only [setKAt, h, ha]
  rw [if_pos ⟨trivial, hl⟩]
theorem gFld_ok {c f : Cs} {fs : List (Cs × D)} (h : S[n]? = some (.inst c fs)) (hd : fs.lookup f = some d) : gFld c f (.loc n) S = .ok d S := by
  simp only [gFld, h, hd, if_true]
end
section
variable {P : D → Store → Prop} {PB : Bool → Store → Prop} {PC : Ctl → Store → Prop} {PG : Env → Store → Prop} {PI : List D × Option Live → Store → Prop} {E : Nat → Store → Prop} {ρ : Env} {S : Store} {a b c : FE} {t u : FT} {F G : FS}
theorem w_meth {c m : Cs} {f : FF} {o : FE} {as : List FE} (h : Wp (o ρ S) (fun x S1 => ∃ n fs, x = .loc n ∧ S1[n]? = some (.inst c fs) ∧ fs.lookup m = none ∧ Wp (evalAll as ρ S1) (fun ds S2 => Wp (f (.loc n :: ds) S2) P E) E) E) : Wp (dMeth c m f o as ρ S) P E :=
  wp_bind (h.imp fun x S1 ⟨n, fs, e, h1, h2, h3⟩ => by
    subst e
    simp only [h1]
    rw [if_pos ⟨trivial, h2⟩]
    exact wp_bind h3)
theorem w_make {c : Cs} {f : FF} {as : List FE} (h : Wp (evalAll as ρ S) (fun ds S1 => Wp (f (.loc S1.length :: ds) (S1 ++ [.inst c []])) (fun d S2 => d = .non ∧ P (.loc S1.length) S2) E) E) : Wp (dMake c f as ρ S) P E :=
  wp_bind (h.imp fun ds S1 h => wp_bind (h.imp fun d S2 ⟨e, h⟩ => by subst e; exact h))
theorem w_app (h : Wp (a ρ S) (fun x S1 => ∃ n ds0, x = .loc n ∧ S1[n]? = some (.lst ds0) ∧ Wp (b ρ S1) (fun d S2 => ∃ ds, S2[n]? = some (.lst ds) ∧ ds.length < lim ∧ P .non (S2.set n (.lst (ds ++ [d])))) E) E) : Wp (dApp a b ρ S) P E :=
  wp_bind (h.imp fun x S1 ⟨n, ds0, e, h1, h2⟩ => by
    subst e
    simp only [h1]
    exact wp_bind (h2.imp fun d S2 ⟨ds, h3, h4, h5⟩ => by
      simp only [h3]
      rw [if_pos h4]
      exact h5))
theorem w_fldD {c f : Cs} (h : Wp (a ρ S) (fun d S1 => Wp (b ρ S1) (fun x S2 => ∃ n fs, x = .loc n ∧ S2[n]? = some (.inst c fs) ∧ fs.length < 900 ∧ PC (.next ρ) (S2.set n (.inst c (putD f d fs)))) E) E) : Wp (sFldD c f b a ρ S) PC E :=
  wp_bind (h.imp fun d S1 h => wp_bind (h.imp fun x S2 ⟨n, fs, e, h1, h2, h3⟩ => by
    subst e
    simp only [h1]
    rw [if_pos ⟨trivial, h2⟩]
    exact h3))
theorem w_gsk {d : D} (h : Wp (a ρ S) (fun x S1 => Wp (b ρ S1) (fun y S2 => Wp (setKAt x y d S2) (fun _ S3 => PG ρ S3) E) E) E) : Wp (gSubK a b d ρ S) PG E :=
  wp_bind (h.imp fun _ _ h => wp_bind (h.imp fun _ _ h => wp_bind h))
theorem w_dict0 (h : P (.loc S.length) (S ++ [.dict []])) : Wp (dDict0 ρ S) P E := h
theorem w_dict1 (h : Wp (a ρ S) (fun x S1 => Wp (b ρ S1) (fun y S2 => x.okKey = true ∧ P (.loc S2.length) (S2 ++ [.dict [(x, y)]])) E) E) : Wp (dDict1 a b ρ S) P E :=
  wp_bind (h.imp fun x _ h => wp_bind (h.imp fun y _ ⟨e, h⟩ => by rw [if_pos e]; exact h))
/-- walks over a list of the store -/
theorem iv_loc {n : Nat} {ds : List D} (ha : a ρ S = .ok (.loc n) S) (h : S[n]? = some (.lst ds)) : iVal a ρ S = .ok (ds, some (lvL n)) S := by
  simp only [iVal, ha, Res.ok_bind, h]
theorem compN_pure {g : FG} {vs : List Nat} {e : FE} {n : Live} {ds : List D} (k : D → Bool) (f : D → D) (hn : n S = some ds) : ∀ j, j ≤ ds.length → (∀ d ∈ ds, ∃ ρ1, g d (wipe ρ vs) S = .ok ρ1 S ∧ t ρ1 S = .ok (k d) S ∧ (k d = true → e ρ1 S = .ok (f d) S)) →
    compN g vs t e ρ n ds.length j S = .ok (((ds.drop (ds.length - j)).filter k).map f) S
  | 0, _, _ => by
    unfold compN
    rw [hn]
    simp
  | j + 1, hj, h => by
    have hd : ds[ds.length - (j + 1)]? = some ds[ds.length - (j + 1)] := List.getElem?_eq_getElem (by omega)
    obtain ⟨ρ1, h1, h2, h3⟩ := h _ (List.getElem_mem (show ds.length - (j + 1) < ds.length by omega))
    have ih := compN_pure (g := g) (vs := vs) (e := e) k f hn j (by omega) h
    have hdr : ds.drop (ds.length - (j + 1)) = ds[ds.length - (j + 1)] :: ds.drop (ds.length - j) := by
      rw [List.drop_eq_getElem_cons (show ds.length - (j + 1) < ds.length by omega)]
      congr 2
      omega
    unfold compN
    rw [hn]
    simp only [if_true, hd, h1, Res.ok_noex, Res.ok_bind, h2, hdr]
    cases hk : k ds[ds.length - (j + 1)] with
    | true => simp only [if_true, h3 hk, Res.ok_noex, Res.ok_bind, ih, List.filter_cons, hk, List.map_cons]
    | false => simp only [Bool.false_eq_true, if_false, ih, List.filter_cons, hk]
theorem comp_pureN {it : FI} {g : FG} {vs : List Nat} {e : FE} {n : Live} {ds : List D} (k : D → Bool) (f : D → D) (hi : it ρ S = .ok (ds, some n) S) (hn : n S = some ds) (hl : ds.length ≤ lim) (h : ∀ d ∈ ds, ∃ ρ1, g d (wipe ρ vs) S = .ok ρ1 S ∧ t ρ1 S = .ok (k d) S ∧ (k d = true → e ρ1 S = .ok (f d) S)) :
    dComp it g vs t e ρ S = .ok (.lst ((ds.filter k).map f)) S := by
  unfold dComp
  rw [hi]
  simp only [Res.ok_bind, if_pos hl]
  rw [compN_pure k f hn _ (Nat.le_refl _) h]
  simp
/-- a loop over a list of the store, by an invariant of the items that are left -/
theorem w_forN {g : FG} (I : List D → Env → Store → Prop) {n : Nat} {all : List D} (hl : ∀ ds ρ S, I ds ρ S → S[n]? = some (.lst all)) (hn : ∀ ρ S, I [] ρ S → PC (.next ρ) S)
    (hs : ∀ d ds ρ S, I (d :: ds) ρ S → Wp (g d ρ S) (fun ρ1 S1 => Wp (F ρ1 S1) (fun c S2 => match c with
      | .next ρ2 => I ds ρ2 S2
      | .cnt ρ2 => I ds ρ2 S2
      | .brk ρ2 => PC (.next ρ2) S2
      | .ret d => PC (.ret d) S2) E) E) : ∀ {j : Nat} {ρ : Env} {S : Store}, j ≤ all.length → I (all.drop (all.length - j)) ρ S → Wp (forN g F (lvL n) all.length j ρ S) PC E
  | 0, ρ, S, _, h => by
    have h' := hl _ _ _ h
    have h0 : I [] ρ S := by simpa using h
    unfold forN
    simp only [lvL, h', if_true]
    exact hn _ _ h0
  | j + 1, ρ, S, hj, h => by
    have h' := hl _ _ _ h
    have hd : all[all.length - (j + 1)]? = some all[all.length - (j + 1)] := List.getElem?_eq_getElem (by omega)
    have hdr : all.drop (all.length - (j + 1)) = all[all.length - (j + 1)] :: all.drop (all.length - j) := by
      rw [List.drop_eq_getElem_cons (show all.length - (j + 1) < all.length by omega)]
      congr 2
      omega
    rw [hdr] at h
    unfold forN
    simp only [lvL, h', if_true, hd]
    refine wp_bind ((hs _ _ _ _ h).imp fun ρ1 S1 h => wp_bind (h.imp fun c S2 h => ?_))
    cases c with
    | next ρ2 => exact w_forN I hl hn hs (by omega) h
    | cnt ρ2 => exact w_forN I hl hn hs (by omega) h
    | brk ρ2 => exact h
    | ret d => exact h
theorem w_forS {it : FI} {g : FG} (I : List D → Env → Store → Prop) {n : Nat} {all : List D} (hi : it ρ S = .ok (all, some (lvL n)) S) (h0 : I all ρ S) (hl : ∀ ds ρ S, I ds ρ S → S[n]? = some (.lst all)) (hn : ∀ ρ S, I [] ρ S → PC (.next ρ) S)
    (hs : ∀ d ds ρ S, I (d :: ds) ρ S → Wp (g d ρ S) (fun ρ1 S1 => Wp (F ρ1 S1) (fun c S2 => match c with
      | .next ρ2 => I ds ρ2 S2
      | .cnt ρ2 => I ds ρ2 S2
      | .brk ρ2 => PC (.next ρ2) S2
      | .ret d => PC (.ret d) S2) E) E) : Wp (sFor it g F ρ S) PC E := by
  unfold sFor
  rw [hi]
  exact w_forN I hl hn hs (Nat.le_refl _) (by simpa using h0)
theorem w_forV {it : FI} {g : FG} (I : List D → Env → Store → Prop) {all : List D} (hi : it ρ S = .ok (all, none) S) (h0 : I all ρ S) (hn : ∀ ρ S, I [] ρ S → PC (.next ρ) S)
    (hs : ∀ d ds ρ S, I (d :: ds) ρ S → Wp (g d ρ S) (fun ρ1 S1 => Wp (F ρ1 S1) (fun c S2 => match c with
      | .next ρ2 => I ds ρ2 S2
      | .cnt ρ2 => I ds ρ2 S2
      | .brk ρ2 => PC (.next ρ2) S2
      | .ret d => PC (.ret d) S2) E) E) : Wp (sFor it g F ρ S) PC E := by
  unfold sFor
  rw [hi]
  exact w_forL I h0 hn hs
/-- while, by an invariant and a number that bounds the turns -/
theorem w_while {N : Env → Store → Nat} (I : Nat → Env → Store → Prop) {m : Nat} (hm : m < N ρ S) (h0 : I m ρ S)
    (hs : ∀ m ρ S, I m ρ S → Wp (t ρ S) (fun k S1 => (k = true → Wp (F ρ S1) (fun c S2 => match c with
      | .next ρ2 => ∃ m', m' < m ∧ I m' ρ2 S2
      | .cnt ρ2 => ∃ m', m' < m ∧ I m' ρ2 S2
      | .brk ρ2 => PC (.next ρ2) S2
      | .ret d => PC (.ret d) S2) E) ∧ (k = false → PC (.next ρ) S1)) E) : Wp (sWhile N t F ρ S) PC E := by
  unfold sWhile
  generalize N ρ S = K at hm
  induction K generalizing m ρ S with
  | zero => omega
  | succ K ih =>
    unfold whileN
    refine wp_bind ((hs m ρ S h0).imp fun k S1 h => ?_)
    cases k with
    | true =>
      rw [if_pos rfl]
      refine wp_bind ((h.1 rfl).imp fun c S2 h => ?_)
      cases c with
      | next ρ2 => obtain ⟨m', h1, h2⟩ := h; exact ih h2 (by omega)
      | cnt ρ2 => obtain ⟨m', h1, h2⟩ := h; exact ih h2 (by omega)
      | brk ρ2 => exact h
      | ret d => exact h
    | false =>
      rw [if_neg (by simp)]
      exact h.2 rfl
end
end WF


set_option linter.all false
set_option maxRecDepth 100000
set_option maxHeartbeats 4000000
/-! # MStep: window, stepped -/
namespace WF
section
variable {S : Store}
theorem win_expr {nm : Cs} {v w c : Nat} {p : Cs} {ρ : Env} (h1 : ρ[1]? = some (some (.str p))) (h2 : ρ[2]? = some (some (.str [c]))) (h3 : ρ[3]? = some (some (.str nm))) (h5 : ρ[5]? = some (some (.str [v]))) (h6 : ρ[6]? = some (some (.str [w]))) :
    dOr (dAnd (dBin gEq (dVar 2) (dVar 6)) (dBin gIn (dVar 5) (dVar 1))) (dAnd (dBin gEq (dVar 3) (dC (.str [110, 101, 97, 114]))) (dAnd (dBin gEq (dVar 2) (dVar 5)) (dBin gIn (dVar 6) (dVar 1)))) ρ S =
      .ok (.bl ((c == w && p.contains v) || (nm == sNear && (c == v && p.contains w)))) S := by
  refine dOr_bl (dAnd_bl (dBin_v h2 h6 ?_) fun _ => dBin_v h5 h1 gIn_str) fun _ => dAnd_bl (dBin_vc h3 gEq_str') fun _ => dAnd_bl (dBin_v h2 h5 ?_) fun _ => dBin_v h6 h1 gIn_str
  · rw [gEq_str', beq_one]
  · rw [gEq_str', beq_one]
theorem window_ok {q : Q} {p : Cs} {c : Nat} (hw : q.wf) (hq : (∃ s, q = .row s) ∨ (∃ v w g, q = .near v w g) ∨ ∃ v w g, q = .before v w g) (hp : p.length ≤ 10) : P_window [q.enc, .str p, .str [c]] S = .ok (.str (wnd q p c)) S := by
  refine wp_to ?_
  have hl : p.length + ([c] : Cs).length ≤ lim := by simp [lim]; omega
  have hl2 : (p ++ [c]).length ≤ lim := by simp [lim]; omega
  rcases hq with ⟨s, rfl⟩ | ⟨v, w, g, rfl⟩ | ⟨v, w, g, rfl⟩
  · unfold P_window
    refine w_run ?_
    have := hw.2.1
    have h3 := hw.2.2
    walk_at "wf go1"
    refine wp_eq (gAdd_str hl) ?_
    walk_at "wf go1"
    refine ⟨fun e => ?_, fun e => ?_⟩
    · walk_at "wf go1"
      exact ⟨by simp only [wnd, e]; rfl, rfl⟩
    · walk_at "wf go1"
      refine wp_eq (gAdd_str hl) ?_
      walk_at "wf go1"
      refine wp_eq (bLen_str (by simp [lim]; omega)) ?_
      walk_at "wf go1"
      rw [show (1 : Int) - (s.length : Int) = -((s.length - 1 : Nat) : Int) by omega]
      refine wp_eq (gSlice_last (by omega) hl2) ?_
      walk_at "wf go1"
      exact ⟨by simp only [wnd, e]; rfl, rfl⟩
  · unfold P_window
    refine w_run ?_
    have hg : ((-1 : Int) - (g : Int)) = -((g + 1 : Nat) : Int) := by omega
    repeat (first | refine wp_eq (win_expr rfl rfl rfl rfl rfl) ?_ | walk_at "wf one0" | with_reducible refine wp_eq gEq_str' ?_ | refine wp_eq rfl ?_ | walk_at "wf bool")
    refine ⟨fun e => ?_, fun e => ?_⟩
    · walk_at "wf go1"
      exact ⟨by have e : (c == w && p.contains v || c == v && p.contains w) = true := e
                simp only [wnd, e]; rfl, rfl⟩
    · walk_at "wf go1"
      refine wp_eq (gAdd_str hl) ?_
      walk_at "wf go1"
      rw [hg]
      refine wp_eq (gSlice_last (by omega) hl2) ?_
      exact ⟨by have e : (c == w && p.contains v || c == v && p.contains w) = false := e
                simp only [wnd, e]; rfl, rfl⟩
  · unfold P_window
    refine w_run ?_
    have hg : ((-1 : Int) - (g : Int)) = -((g + 1 : Nat) : Int) := by omega
    repeat (first | refine wp_eq (win_expr rfl rfl rfl rfl rfl) ?_ | walk_at "wf one0" | with_reducible refine wp_eq gEq_str' ?_ | refine wp_eq rfl ?_ | walk_at "wf bool")
    refine ⟨fun e => ?_, fun e => ?_⟩
    · walk_at "wf go1"
      exact ⟨by have e : (c == w && p.contains v || false) = true := e
                rw [Bool.or_false] at e
                simp only [wnd, e]; rfl, rfl⟩
    · walk_at "wf go1"
      refine wp_eq (gAdd_str hl) ?_
      walk_at "wf go1"
      rw [hg]
      refine wp_eq (gSlice_last (by omega) hl2) ?_
      exact ⟨by have e : (c == w && p.contains v || false) = false := e
                rw [Bool.or_false] at e
                simp only [wnd, e]; rfl, rfl⟩
theorem gEq_bl {a b : Bool} : gEq (.bl a) (.bl b) S = .ok (.bl (a == b)) S := by
  simp [gEq, res, D.plain, D.depth, D.eqv]
theorem stepped_ok {q : Q} {t : Cs} {c : Nat} (hw : q.wf) (hs : q.simple) (ht : okt t) : P_stepped [q.enc, .str (run q t), .str [c]] S = .ok (.str (stp q (run q t) c)) S := by
  refine wp_to ?_
  have hr := run_of hw hs t ht
  have hp : (run q t).length ≤ 10 ∧ ∀ v n, q = .often v n → run q t = [min n (t.count v) + 48] := by
    rw [hr]
    refine ⟨?_, fun v n e => by subst e; rfl⟩
    cases q with
    | word v => simp only [stOf]; split <;> simp [Fnd]
    | begin v =>
      simp only [stOf]
      split
      · simp
      · split <;> simp [Fnd]
    | end_ v => simp only [stOf]; split <;> simp [Fnd]
    | often v n => simp [stOf]
    | row s => have := hw.2.2; simp only [stOf]; split <;> simp [Fnd, lastN_len] <;> omega
    | before v w g => have := hw.2.2; simp only [stOf]; split <;> simp [Fnd, lastN_len] <;> omega
    | near v w g => have := hw.2.2; simp only [stOf]; split <;> simp [Fnd, lastN_len] <;> omega
    | not p => exact hs.elim
    | and p q => exact hs.elim
    | or p q => exact hs.elim
  obtain ⟨hp, hof⟩ := hp
  clear hr
  have fin : ∀ {b : Bool} {x y z : Cs}, (b = true → z = x) → (b = false → z = y) → z = if b = true then x else y := fun {b x y z} h1 h2 => by
    cases b
    · simpa using h2 rfl
    · simpa using h1 rfl
  cases q with
  | word v =>
    generalize run (.word v) t = p at hp
    unfold P_stepped
    refine w_run ?_
    walk_at "wf go1"
    refine ⟨fun e => ?_, fun e => ?_⟩
    · walk_at "wf go1"
      exact ⟨by have e : (p == Fnd) = true := e
                simp only [stp, e]; rfl, rfl⟩
    · walk_at "wf go1"
      refine ⟨fun e2 => ?_, fun e2 => ?_⟩
      · walk_at "wf go1"
        exact ⟨by have e : (p == Fnd) = false := e
                  rw [beq_one] at e2
                  simp only [stp, e, e2]; rfl, rfl⟩
      · walk_at "wf go1"
        exact ⟨by have e : (p == Fnd) = false := e
                  rw [beq_one] at e2
                  simp only [stp, e, e2]; rfl, rfl⟩
  | begin v =>
    generalize run (.begin v) t = p at hp
    unfold P_stepped
    refine w_run ?_
    walk_at "wf go1"
    refine ⟨fun e => ?_, fun e => ?_⟩
    · walk_at "wf go1"
      exact ⟨by have e : (p == Fnd) = true := e
                simp only [stp, e]; rfl, rfl⟩
    · have e : (p == Fnd) = false := e
      walk_at "wf go1"
      refine ⟨fun e2 => ?_, fun e2 => ?_⟩
      · walk_at "wf go1"
        refine ⟨fun e3 => ?_, fun e3 => ?_⟩
        · walk_at "wf go1"
          exact ⟨by rw [beq_one] at e3
                    simp only [stp, e, e2, e3]; rfl, rfl⟩
        · walk_at "wf go1"
          exact ⟨by rw [beq_one] at e3
                    simp only [stp, e, e2, e3]; rfl, rfl⟩
      · walk_at "wf go1"
        exact ⟨by simp only [stp, e, e2]; rfl, rfl⟩
  | end_ v =>
    generalize run (.end_ v) t = p at hp
    unfold P_stepped
    refine w_run ?_
    walk_at "wf go1"
    refine ⟨fun e => ?_, fun e => ?_⟩
    · walk_at "wf go1"
      exact ⟨by rw [beq_one] at e
                simp only [stp, e]; rfl, rfl⟩
    · walk_at "wf go1"
      exact ⟨by rw [beq_one] at e
                simp only [stp, e]; rfl, rfl⟩
  | often v n =>
    rw [hof v n rfl]
    have h48 : ([min n (t.count v) + 48] == Fnd) = false := by simp [Fnd]
    have hn := hw.2.2
    generalize hm : min n (t.count v) = m at h48
    have hm3 : m ≤ 3 := by omega
    unfold P_stepped
    refine w_run ?_
    walk_at "wf go1"
    refine wp_eq (a := .int (m : Int)) (S := S) ?_ ?_
    · unfold bInt
      dsimp only
      rw [if_pos ⟨by omega, by omega⟩]
      congr 2
      omega
    · walk_at "wf go1"
      refine wp_eq (a := .str [min n (m + if c == v then 1 else 0) + 48]) (S := S) ?_ ?_
      · have e0 : ([c] == ([v] : Cs)) = (c == v) := beq_one
        rw [e0]
        cases c == v
        all_goals
          unfold bStrI
          dsimp only
          rw [if_pos (by simp; split <;> omega)]
          congr 3
          simp
          split <;> omega
      · refine ⟨?_, rfl⟩
        simp only [stp, h48, Bool.false_eq_true, if_false]
        simp
  | row s =>
    generalize run (.row s) t = p at hp
    unfold P_stepped
    refine w_run ?_
    walk_at "wf go1"
    refine ⟨fun e => ?_, fun e => ?_⟩
    · walk_at "wf go1"
      exact ⟨by have e : (p == Fnd) = true := e
                simp only [stp, e]; rfl, rfl⟩
    · have e : (p == Fnd) = false := e
      walk_at "wf go1"
      refine wp_eq (window_ok hw (.inl ⟨_, rfl⟩) hp) ?_
      exact ⟨by simp only [stp, e]; rfl, rfl⟩
  | near v w g =>
    generalize run (.near v w g) t = p at hp
    unfold P_stepped
    refine w_run ?_
    walk_at "wf go1"
    refine ⟨fun e => ?_, fun e => ?_⟩
    · walk_at "wf go1"
      exact ⟨by have e : (p == Fnd) = true := e
                simp only [stp, e]; rfl, rfl⟩
    · have e : (p == Fnd) = false := e
      walk_at "wf go1"
      refine wp_eq (window_ok hw (.inr (.inl ⟨_, _, _, rfl⟩)) hp) ?_
      exact ⟨by simp only [stp, e]; rfl, rfl⟩
  | before v w g =>
    generalize run (.before v w g) t = p at hp
    unfold P_stepped
    refine w_run ?_
    walk_at "wf go1"
    refine ⟨fun e => ?_, fun e => ?_⟩
    · walk_at "wf go1"
      exact ⟨by have e : (p == Fnd) = true := e
                simp only [stp, e]; rfl, rfl⟩
    · have e : (p == Fnd) = false := e
      walk_at "wf go1"
      refine wp_eq (window_ok hw (.inr (.inr ⟨_, _, _, rfl⟩)) hp) ?_
      exact ⟨by simp only [stp, e]; rfl, rfl⟩
  | not p => exact hs.elim
  | and p q => exact hs.elim
  | or p q => exact hs.elim
end
end WF


set_option linter.all false
set_option maxRecDepth 100000
set_option maxHeartbeats 4000000
/-! # MRead: the reader of texts -/
namespace WF
abbrev sReader : Cs := [82, 101, 97, 100, 101, 114]
abbrev sQuestions : Cs := [113, 117, 101, 115, 116, 105, 111, 110, 115]
abbrev sSimple : Cs := [115, 105, 109, 112, 108, 101]
abbrev sKnown : Cs := [107, 110, 111, 119, 110]
abbrev sTold : Cs := [116, 111, 108, 100]
def encS (ps : List Cs) : D := .tup (ps.map .str)
theorem areKeys_strs : ∀ ps : List Cs, D.areKeys (ps.map D.str) = true
  | [] => rfl
  | p :: ps => by simp [D.areKeys, D.isKey, areKeys_strs ps]
theorem depths_strs' : ∀ ts : List Cs, D.depths (ts.map D.str) = 0
  | [] => rfl
  | t :: ts => by simp [D.depths, D.depth, depths_strs' ts]
theorem encS_inj {a b : List Cs} (h : encS a = encS b) : a = b := by
  simp only [encS, D.tup.injEq] at h
  induction a generalizing b with
  | nil => cases b <;> simp at h ⊢
  | cons x a ih =>
    cases b with
    | nil => simp at h
    | cons y b => simp at h ⊢; exact ⟨h.1, ih h.2⟩
theorem encS_ok {ps : List Cs} : (encS ps).okKey = true := by simp [encS, D.okKey, areKeys_strs, depths_strs']
theorem encS_key {ps : List Cs} : (encS ps).isKey = true := by simp [encS, D.isKey, areKeys_strs]
def kKn (s : List Cs) (c : Nat) : D := .tup [encS s, .str [c]]
theorem kKn_ok {s : List Cs} {c : Nat} : (kKn s c).okKey = true := by
  simp [kKn, D.okKey, D.areKeys, D.isKey, D.depths, D.depth, encS, depths_strs', areKeys_strs]
theorem kKn_inj {s s' : List Cs} {c c' : Nat} (h : kKn s c = kKn s' c') : s = s' ∧ c = c' := by
  simp only [kKn, D.tup.injEq, List.cons.injEq, D.str.injEq, and_true] at h
  exact ⟨encS_inj h.1, h.2⟩
/-- the simple questions of q are in the list -/
def Subs (sim : List Q) : Q → Prop
  | .not p => Subs sim p
  | .and p q => Subs sim p ∧ Subs sim q
  | .or p q => Subs sim p ∧ Subs sim q
  | q => q ∈ sim
/-- equal states, equal finds -/
theorem ev_sts {sim : List Q} (hs : Sims sim) {t u : Cs} (ht : okt t) (hu : okt u) (e : sts sim t = sts sim u) : ∀ {q : Q}, Subs sim q → q.ev t = q.ev u := by
  have simp' : ∀ q ∈ sim, q.ev t = q.ev u := fun q hq => by
    obtain ⟨h1, h2⟩ := hs q hq
    rw [← tru_of h1 h2 ht, ← tru_of h1 h2 hu]
    congr 1
    obtain ⟨i, hi⟩ := List.mem_iff_getElem?.mp hq
    have h3 : (sts sim t)[i]? = some (run q t) := by simp [sts, hi]
    have h4 : (sts sim u)[i]? = some (run q u) := by simp [sts, hi]
    rw [e, h4] at h3
    exact (Option.some.inj h3).symm
  intro q
  induction q with
  | not p ih => intro h; simp only [Q.ev, ih h]
  | and p q ih1 ih2 => intro h; simp only [Q.ev, ih1 h.1, ih2 h.2]
  | or p q ih1 ih2 => intro h; simp only [Q.ev, ih1 h.1, ih2 h.2]
  | _ => intro h; exact simp' _ h
def rdO (qs : List Q) (r : Nat) : MO := .inst sReader [(sQuestions, .lst (qs.map Q.enc)), (sSimple, .loc (r + 1)), (sKnown, .loc (r + 2)), (sTold, .loc (r + 3))]
/-- what a reader reads -/
structure Rk (qs sim : List Q) : Prop where
  sims : Sims sim
  few : sim.length ≤ 7
  sub : ∀ q ∈ qs, Subs sim q
  dep : ∀ q ∈ qs, q.depth ≤ 3
  ql : qs.length ≤ 100
/-- the reader at r -/
structure Rdr (r : Nat) (qs sim : List Q) (S : Store) : Prop where
  inst : S[r]? = some (rdO qs r)
  simL : S[r + 1]? = some (.lst (sim.map Q.enc))
  kn : ∃ kvs : List (D × D), S[r + 2]? = some (.dict kvs) ∧ (kvs.map (·.1)).Nodup ∧ ∀ kd ∈ kvs, ∃ t c, okt t ∧ okc c ∧ kd.1 = kKn (sts sim t) c ∧ kd.2 = encS (sts sim (t ++ [c]))
  tl : ∃ kvs : List (D × D), S[r + 3]? = some (.dict kvs) ∧ (kvs.map (·.1)).Nodup ∧ ∀ kd ∈ kvs, ∃ t, okt t ∧ kd.1 = encS (sts sim t) ∧ kd.2 = .tup (qs.map fun q => .bl (q.ev t))
/-- nothing but the reader's tables has changed -/
structure RFr (r : Nat) (S S' : Store) : Prop where
  len : S'.length = S.length
  at_ : ∀ i, i ≠ r + 2 → i ≠ r + 3 → S'[i]? = S[i]?
theorem RFr.refl {r : Nat} {S : Store} : RFr r S S := ⟨rfl, fun _ _ _ => rfl⟩
theorem RFr.trans {r : Nat} {S S1 S2 : Store} (a : RFr r S S1) (b : RFr r S1 S2) : RFr r S S2 := ⟨b.len.trans a.len, fun i h1 h2 => (b.at_ i h1 h2).trans (a.at_ i h1 h2)⟩
theorem pow4_le {n : Nat} (h : n ≤ 7) : 4 ^ n ≤ 16384 := Nat.le_trans (Nat.pow_le_pow_right (by decide) h) (by decide)
section
variable {qs sim : List Q} {r : Nat} {S : Store}
theorem kn_len (k : Rk qs sim) {kvs : List (D × D)} (nd : (kvs.map (·.1)).Nodup) (h : ∀ kd ∈ kvs, ∃ t c, okt t ∧ okc c ∧ kd.1 = kKn (sts sim t) c ∧ kd.2 = encS (sts sim (t ++ [c]))) : kvs.length < lim := by
  have e : kvs.length ≤ (((allS sim).flatMap fun s => [(s, 97), (s, 98), (s, 99), (s, 100)]).map fun p => kKn p.1 p.2).length := by
    rw [← List.length_map (f := (·.1)) (as := kvs)]
    refine nd.length_le_of_subset fun x hx => ?_
    obtain ⟨kd, hk, rfl⟩ := List.mem_map.mp hx
    obtain ⟨t, c, ht, hc, h1, _⟩ := h kd hk
    refine List.mem_map.mpr ⟨(sts sim t, c), List.mem_flatMap.mpr ⟨sts sim t, mem_allS k.sims ht, ?_⟩, h1.symm⟩
    rcases hc with e | e | e | e <;> subst e <;> simp
  have e2 : ((allS sim).flatMap fun s => [(s, 97), (s, 98), (s, 99), (s, 100)]).length = 4 * (85 * 4 ^ sim.length) := by
    rw [← allS_len]
    generalize allS sim = k
    induction k with
    | nil => rfl
    | cons x k ih => rw [List.flatMap_cons, List.length_append, ih]; simp; omega
  rw [List.length_map, e2] at e
  have := pow4_le k.few
  simp only [lim]
  omega
theorem tl_len (k : Rk qs sim) {kvs : List (D × D)} (nd : (kvs.map (·.1)).Nodup) (h : ∀ kd ∈ kvs, ∃ t, okt t ∧ kd.1 = encS (sts sim t)) : kvs.length ≤ 85 * 4 ^ sim.length := by
  have e : kvs.length ≤ ((allS sim).map encS).length := by
    rw [← List.length_map (f := (·.1)) (as := kvs)]
    refine nd.length_le_of_subset fun x hx => ?_
    obtain ⟨kd, hk, rfl⟩ := List.mem_map.mp hx
    obtain ⟨t, ht, h1⟩ := h kd hk
    rw [h1]
    exact List.mem_map_of_mem (mem_allS k.sims ht)
  rwa [List.length_map, allS_len] at e
theorem zip_mem {d : D} : ∀ {sim : List Q} {ps : List Cs}, d ∈ zipD (sim.map Q.enc) (ps.map D.str) → ∃ q p, (q, p) ∈ sim.zip ps ∧ d = .tup [q.enc, .str p]
  | [], _, h => by simp [zipD] at h
  | _ :: _, [], h => by simp [zipD] at h
  | q :: sim, p :: ps, h => by
    rw [List.map_cons, List.map_cons] at h
    unfold zipD at h
    rcases List.mem_cons.mp h with e | e
    · exact ⟨q, p, by simp, e⟩
    · obtain ⟨q', p', h1, h2⟩ := zip_mem e
      exact ⟨q', p', by rw [List.zip_cons_cons]; exact List.mem_cons_of_mem _ h1, h2⟩
def zipF (c : Nat) (d : D) : D := match d with
  | .tup [q, .str p] => .str (match q with
    | q => p)
  | _ => .non
theorem step_comp {ρ : Env} {t : Cs} {c : Nat} {n : Nat} (hs : Sims sim) (ht : okt t) (hl : sim.length ≤ 7) (hS : S[n]? = some (.lst (sim.map Q.enc)))
    (hi : (dUn (gFld sReader sSimple) (dVar 0)) ρ S = .ok (.loc n) S) (hρ : ρ.length = 6) (h1 : ρ[1]? = some (some (encS (sts sim t)))) (h2 : ρ[2]? = some (some (.str [c]))) :
    dComp (iZip (dUn (gFld [82, 101, 97, 100, 101, 114] [115, 105, 109, 112, 108, 101]) (dVar 0)) (dVar 1)) (gTup [(gName 4), (gName 5)]) [4, 5] tYes (dCall P_stepped [(dVar 4), (dVar 5), (dVar 2)]) ρ S = .ok (.lst ((sts sim (t ++ [c])).map D.str)) S := by
  -- by the item's own place
  have hz : iZip (dUn (gFld [82, 101, 97, 100, 101, 114] [115, 105, 109, 112, 108, 101]) (dVar 0)) (dVar 1) ρ S = .ok (zipD (sim.map Q.enc) ((sts sim t).map D.str), some fun S => (lvL n S).map fun es => zipD es ((sts sim t).map D.str)) S := by
    unfold iZip
    rw [hi]
    simp only [Res.ok_bind, dVar, h1, encS, hS]
  have hstep : ∀ (l : List Q) (j : Nat), (∀ q ∈ l, q.wf ∧ q.simple) → zipD (l.map Q.enc) ((sts l t).map D.str) = l.map fun q => .tup [q.enc, .str (run q t)] := fun l j h => by
    clear hi h1 hz
    induction l with
    | nil => rfl
    | cons q l ih =>
      show D.tup [q.enc, .str (run q t)] :: zipD (l.map Q.enc) ((sts l t).map D.str) = _
      rw [ih fun x hx => h x (List.mem_cons_of_mem _ hx)]
      rfl
  have hzz := hstep sim 0 hs
  rw [hzz] at hz
  let f : D → D := fun d => match P_stepped (match d with
    | .tup [a, b] => [a, b, .str [c]]
    | _ => []) S with
    | .ok d _ => d
    | _ => .non
  have hf : ∀ q ∈ sim, f (.tup [q.enc, .str (run q t)]) = .str (run q (t ++ [c])) := fun q hq => by
    have := stepped_ok (S := S) (c := c) (hs q hq).1 (hs q hq).2 ht
    show (match P_stepped [q.enc, .str (run q t), .str [c]] S with
      | .ok d _ => d
      | _ => .non) = _
    rw [this, run_snoc]
  rw [comp_pureN (ds := sim.map fun q => .tup [q.enc, .str (run q t)]) (fun _ => true) f hz ?_ (by simp [lim]; omega) ?_]
  · rw [filter_true, List.map_map]
    congr 2
    rw [sts, List.map_map]
    exact List.map_congr_left fun q hq => hf q hq
  · simp only [lvL, hS, Option.map_some, hzz]
  · intro d hd
    obtain ⟨q, hq, rfl⟩ := List.mem_map.mp hd
    have e2 : ((((wipe ρ [4, 5]).set 4 (some q.enc)).set 5 (some (.str (run q t))))[2]?) = some (some (.str [c])) := by
      simp [wipe, List.getElem?_set, h2]
    have e4 : ((((wipe ρ [4, 5]).set 4 (some q.enc)).set 5 (some (.str (run q t))))[4]?) = some (some q.enc) := by
      simp [wipe, List.getElem?_set, hρ]
    have e5 : ((((wipe ρ [4, 5]).set 4 (some q.enc)).set 5 (some (.str (run q t))))[5]?) = some (some (.str (run q t))) := by
      simp [wipe, List.getElem?_set, hρ]
    refine ⟨_, rfl, rfl, fun _ => ?_⟩
    rw [hf q hq]
    have := stepped_ok (S := S) (c := c) (hs q hq).1 (hs q hq).2 ht
    simp only [dCall, evalAll, dVar, e2, e4, e5, Res.ok_bind, this, run_snoc]
theorem rd_fld {qs : List Q} {r : Nat} {S : Store} (h : S[r]? = some (rdO qs r)) : gFld sReader sSimple (.loc r) S = .ok (.loc (r + 1)) S ∧ gFld sReader sKnown (.loc r) S = .ok (.loc (r + 2)) S ∧ gFld sReader sTold (.loc r) S = .ok (.loc (r + 3)) S ∧ gFld sReader sQuestions (.loc r) S = .ok (.lst (qs.map Q.enc)) S :=
  ⟨gFld_ok h rfl, gFld_ok h rfl, gFld_ok h rfl, gFld_ok h rfl⟩
theorem start_ok (k : Rk qs sim) (h : Rdr r qs sim S) : P_Reader_start [.loc r] S = .ok (encS (sts sim [])) S := by
  refine wp_to ?_
  unfold P_Reader_start
  refine w_run ?_
  refine w_ret (w_call (w_all1 ?_))
  let f : D → D := fun d => match d with
    | .tup (.str s :: _) => if s == sOften then .str [48] else .str []
    | _ => .non
  have hf : ∀ q ∈ sim, f q.enc = .str (run q []) := fun q hq => by
    have := (k.sims q hq).2
    cases q <;> first | rfl | exact this.elim
  have hfew := k.few
  refine wp_eq (comp_pureN (ds := sim.map Q.enc) (n := lvL (r + 1)) (fun _ => true) f (iv_loc ?_ h.simL) (by simp only [lvL, h.simL]) (by simp [lim]; omega) ?_) ?_
  · show (dUn (gFld sReader sSimple) (dVar 0)) (startE 2 [.loc r]) S = _
    exact (rd_fld h.inst).1
  · intro d hd
    obtain ⟨q, hq, rfl⟩ := List.mem_map.mp hd
    refine ⟨[some (.loc r), some q.enc], rfl, rfl, fun _ => ?_⟩
    rw [hf q hq]
    have hs := (k.sims q hq).2
    refine wp_to ?_
    cases q with
    | not p => exact hs.elim
    | and p q => exact hs.elim
    | or p q => exact hs.elim
    | _ => walk_at "wf go1"; exact ⟨rfl, rfl⟩
  · rw [filter_true]
    refine w_all0 ?_
    refine wp_eq rfl ?_
    refine ⟨?_, rfl⟩
    rw [List.map_map]
    simp only [encS, sts, List.map_map]
    congr 1
    exact List.map_congr_left fun q hq => hf q hq
theorem Rdr.set_kn {kvs : List (D × D)} {t : Cs} {c : Nat} (k : Rk qs sim) (h : Rdr r qs sim S) (ht : okt t) (hc : okc c) (h1 : S[r + 2]? = some (.dict kvs)) (h0 : getKD kvs (kKn (sts sim t) c) = none) :
    Rdr r qs sim (S.set (r + 2) (.dict (kvs ++ [(kKn (sts sim t) c, encS (sts sim (t ++ [c])))]))) := by
  have hl : r + 2 < S.length := lt_of_get h1
  obtain ⟨kvs2, h2, h3, h4⟩ := h.kn
  rw [h1] at h2
  cases h2
  refine ⟨?_, ?_, ⟨_, List.getElem?_set_self hl, ?_, ?_⟩, ?_⟩
  · rw [List.getElem?_set_ne (by omega)]; exact h.inst
  · rw [List.getElem?_set_ne (by omega)]; exact h.simL
  · rw [List.map_append, List.nodup_append]
    refine ⟨h3, by simp, fun a ha b hb e => ?_⟩
    simp at hb
    subst e
    rw [hb] at ha
    exact getKD_none kKn_ok h0 ha
  · intro kd hkd
    rcases List.mem_append.mp hkd with z | z
    · exact h4 kd z
    · simp at z
      subst z
      exact ⟨t, c, ht, hc, rfl, rfl⟩
  · rw [List.getElem?_set_ne (by omega)]; exact h.tl
theorem step_ok {t : Cs} {c : Nat} (k : Rk qs sim) (h : Rdr r qs sim S) (ht : okt t) (hc : okc c) {P : D → Store → Prop} {E : Nat → Store → Prop}
    (q : ∀ S', Rdr r qs sim S' → RFr r S S' → P (encS (sts sim (t ++ [c]))) S') : Wp (P_Reader_step [.loc r, encS (sts sim t), .str [c]] S) P E := by
  obtain ⟨kvs, h1, h2, h3⟩ := h.kn
  have hl : r + 2 < S.length := lt_of_get h1
  have fk := (rd_fld h.inst).2.1
  unfold P_Reader_step
  refine w_run ?_
  refine w_seq (w_asg (w_tup (w_all1 (w_var rfl (w_all1 (w_var rfl (w_all0 (w_gn (nx_next ?_)))))))))
  refine w_seq (w_if (w_tv (w_bin (w_var rfl (w_un (w_var rfl (wp_eq fk (wp_eq (gKNotIn_ok h1 kKn_ok) ?_))))))))
  refine ⟨_, rfl, fun e => ?_, fun e => ?_⟩
  · have h0 : getKD kvs (kKn (sts sim t) c) = none := by simpa [kKn] using e
    refine w_asg (w_call (w_all1 (wp_eq (step_comp k.sims ht k.few h.simL (rd_fld h.inst).1 rfl rfl rfl) (w_all0 ?_))))
    refine wp_eq (a := encS (sts sim (t ++ [c]))) (S := S) rfl ?_
    refine w_gsk (w_un (w_var rfl (wp_eq fk (w_var rfl ?_))))
    refine wp_eq (setKAt_ok h1 kKn_ok (kn_len k h2 h3)) ?_
    have hset := setKD_new (d := encS (sts sim (t ++ [c]))) h0
    unfold kKn at hset
    rw [hset]
    have hR := h.set_kn k ht hc h1 h0
    refine nx_next (w_ret (w_bin (w_un (w_var rfl (wp_eq (rd_fld hR.inst).2.1 (w_var rfl ?_))))))
    refine wp_eq (gKIdx_ok (List.getElem?_set_self hl) kKn_ok (getKD_app kKn_ok h0)) ?_
    exact q _ hR ⟨by simp, fun i h1 h2 => by rw [List.getElem?_set_ne (by omega)]⟩
  · obtain ⟨d, hd⟩ : ∃ d, getKD kvs (kKn (sts sim t) c) = some d := by
      have e : (getKD kvs (kKn (sts sim t) c)).isSome = true := by simpa [kKn] using e
      exact Option.isSome_iff_exists.mp e
    have hm := getKD_mem hd
    obtain ⟨t', c', ht', hc', e1, e2⟩ := h3 _ hm
    have e1 : kKn (sts sim t) c = kKn (sts sim t') c' := e1
    have e2 : d = encS (sts sim (t' ++ [c'])) := e2
    obtain ⟨e3, e4⟩ := kKn_inj e1
    subst e4
    rw [← sts_ext e3] at e2
    subst e2
    refine w_nil (nx_next (w_ret (w_bin (w_un (w_var rfl (wp_eq fk (w_var rfl ?_)))))))
    refine wp_eq (gKIdx_ok h1 kKn_ok hd) ?_
    exact q _ h .refl
theorem findEq_enc {q : Q} : ∀ {l : List Q}, q ∈ l → ∃ j, findEq q.enc (l.map Q.enc) = some j ∧ l[j]? = some q
  | [], h => by simp at h
  | p :: l, h => by
    rw [List.map_cons]
    unfold findEq
    by_cases e : p = q
    · subst e
      rw [if_pos (eqv_refl (enc_key p))]
      exact ⟨0, rfl, rfl⟩
    · rw [enc_eqv, if_neg (by simpa using e)]
      have : q ∈ l := by
        rcases List.mem_cons.mp h with z | z
        · exact absurd z.symm e
        · exact z
      obtain ⟨j, h1, h2⟩ := findEq_enc this
      exact ⟨j + 1, by rw [h1]; rfl, by simpa using h2⟩
theorem asciis_enc : ∀ {l : List Q}, (∀ q ∈ l, q.wf) → D.asciis (l.map Q.enc) = true
  | [], _ => rfl
  | q :: l, h => by
    rw [List.map_cons]
    simp only [D.asciis, enc_ascii (h q (List.mem_cons_self ..)), Bool.true_and]
    exact asciis_enc fun x hx => h x (List.mem_cons_of_mem _ hx)
theorem depths_enc : ∀ {l : List Q}, (∀ q ∈ l, q.simple) → D.depths (l.map Q.enc) ≤ 1
  | [], _ => by simp [D.depths]
  | q :: l, h => by
    have h1 := Q.simple_depth (h q (List.mem_cons_self ..))
    have := depths_enc (l := l) fun x hx => h x (List.mem_cons_of_mem _ hx)
    simp only [List.map_cons, D.depths, enc_depth, h1]
    omega
theorem index_ok {q : Q} {ρ : Env} (k : Rk qs sim) (h : Rdr r qs sim S) (hq : q ∈ sim) (h0 : ρ[0]? = some (some (.loc r))) (h1 : ρ[1]? = some (some q.enc)) : ∃ j : Nat, sim[j]? = some q ∧
    dIndex (dUn (gFld sReader sSimple) (dVar 0)) (dVar 1) ρ S = .ok (.int (j : Int)) S := by
  obtain ⟨j, h2, h3⟩ := findEq_enc hq
  refine ⟨j, h3, ?_⟩
  have e1 : dUn (gFld sReader sSimple) (dVar 0) ρ S = .ok (.loc (r + 1)) S := by
    simp only [dUn, dVar, h0, Res.ok_bind]
    exact (rd_fld h.inst).1
  have e2 : lstOf S (.loc (r + 1)) = some (sim.map Q.enc) := by simp only [lstOf, res, h.simL]
  have hs := k.sims q hq
  have ok : (q.enc.plain && D.plains (sim.map Q.enc) && decide (q.enc.depth ≤ 60) && decide (D.depths (sim.map Q.enc) ≤ 60) && q.enc.ascii && D.asciis (sim.map Q.enc)) = true := by
    have hd := depths_enc (l := sim) fun x hx => (k.sims x hx).2
    have hq1 := Q.simple_depth hs.2
    rw [key_plain (enc_key q), plains_enc, enc_ascii hs.1, asciis_enc fun x hx => (k.sims x hx).1, decide_eq_true (by rw [enc_depth]; omega), decide_eq_true (by omega)]
    rfl
  simp only [dIndex, e1, Res.ok_bind, e2, dVar, h1]
  rw [if_pos ok]
  simp only [h2]
theorem truth_ok {t : Cs} (k : Rk qs sim) (h : Rdr r qs sim S) (ht : okt t) : ∀ {n : Nat} {q : Q}, q.depth ≤ n → Subs sim q → P_Reader_truth n [.loc r, q.enc, encS (sts sim t)] S = .ok (.bl (q.ev t)) S
  | 0, q, h, _ => by have := q.depth_pos; omega
  | n + 1, q, hd, hs => by
    have look : ∀ (fs : List (Cs × D)), rdO qs r = .inst sReader fs → fs.lookup [116, 114, 117, 116, 104] = none := fun fs e => by
      simp only [rdO, MO.inst.injEq, true_and] at e
      rw [← e]
      rfl
    have simp' : q.simple → q ∈ sim → P_Reader_truth (n + 1) [.loc r, q.enc, encS (sts sim t)] S = .ok (.bl (q.ev t)) S := fun hq hm => by
      refine wp_to ?_
      have hw := (k.sims q hm).1
      have fin := tru_of hw hq ht
      have hget : ∀ j : Nat, sim[j]? = some q → gIdx (encS (sts sim t)) (.int (j : Int)) S = .ok (.str (run q t)) S := fun j hj => by
        have this : ((sts sim t).map D.str)[((j : Nat) : Int).toNat]? = some (.str (run q t)) := by simp [sts, hj]
        have := atI_at (show (0 : Int) ≤ (j : Int) by omega) this
        simp only [gIdx, res, encS, this]
      cases q with
      | not p => exact hq.elim
      | and p q => exact hq.elim
      | or p q => exact hq.elim
      | often v m =>
        obtain ⟨j, hj, hi⟩ := index_ok (q := .often v m) (ρ := startE 4 [.loc r, (Q.often v m).enc, encS (sts sim t)]) k h hm rfl rfl
        unfold P_Reader_truth
        refine w_run ?_
        repeat (first | refine wp_eq hi ?_ | refine wp_eq (hget j hj) ?_ | walk_at "wf one0" | with_reducible refine wp_eq gEq_str' ?_ | refine wp_eq rfl ?_ | walk_at "wf bool")
        refine wp_eq (a := .str [m + 48]) (S := S) ?_ ?_
        · have := hw.2.2
          unfold bStrI
          dsimp only
          rw [if_pos ⟨by omega, by omega⟩]
          congr 2
        · refine wp_eq gEq_str' ?_
          exact ⟨by rw [← fin]; rfl, rfl⟩
      | _ =>
        obtain ⟨j, hj, hi⟩ := index_ok (ρ := startE 4 [.loc r, Q.enc _, encS (sts sim t)]) k h hm rfl rfl
        unfold P_Reader_truth
        refine w_run ?_
        repeat (first | refine wp_eq hi ?_ | refine wp_eq (hget j hj) ?_ | walk_at "wf one0" | with_reducible refine wp_eq gEq_str' ?_ | refine wp_eq rfl ?_ | walk_at "wf bool")
        exact ⟨by rw [← fin]; rfl, rfl⟩
    cases q with
    | not p =>
      refine wp_to ?_
      unfold P_Reader_truth
      refine w_run ?_
      walk_at "wf go1"
      refine w_meth (w_var rfl ⟨r, _, rfl, h.inst, rfl, ?_⟩)
      walk_at "wf go1"
      refine wp_eq (truth_ok k h ht (q := p) (by simp [Q.depth] at hd; omega) hs) ?_
      walk_at "wf go1"
      exact ⟨rfl, rfl⟩
    | and p q =>
      refine wp_to ?_
      unfold P_Reader_truth
      refine w_run ?_
      walk_at "wf go1"
      refine w_meth (w_var rfl ⟨r, _, rfl, h.inst, rfl, ?_⟩)
      walk_at "wf go1"
      refine wp_eq (truth_ok k h ht (q := p) (by simp [Q.depth] at hd; omega) hs.1) ?_
      refine ⟨_, rfl, fun e => ?_, fun e => ?_⟩
      · refine w_meth (w_var rfl ⟨r, _, rfl, h.inst, rfl, ?_⟩)
        walk_at "wf go1"
        refine wp_eq (truth_ok k h ht (q := q) (by simp [Q.depth] at hd; omega) hs.2) ?_
        exact ⟨by simp [Q.ev, e], rfl⟩
      · exact ⟨by simp [Q.ev, e], rfl⟩
    | or p q =>
      refine wp_to ?_
      unfold P_Reader_truth
      refine w_run ?_
      walk_at "wf go1"
      refine w_meth (w_var rfl ⟨r, _, rfl, h.inst, rfl, ?_⟩)
      walk_at "wf go1"
      refine wp_eq (truth_ok k h ht (q := p) (by simp [Q.depth] at hd; omega) hs.1) ?_
      refine ⟨_, rfl, fun e => ?_, fun e => ?_⟩
      · refine w_meth (w_var rfl ⟨r, _, rfl, h.inst, rfl, ?_⟩)
        walk_at "wf go1"
        refine wp_eq (truth_ok k h ht (q := q) (by simp [Q.depth] at hd; omega) hs.2) ?_
        exact ⟨by simp [Q.ev, e], rfl⟩
      · exact ⟨by simp [Q.ev, e], rfl⟩
    | _ => exact simp' trivial hs
theorem Rdr.set_tl {kvs : List (D × D)} {t : Cs} (h : Rdr r qs sim S) (ht : okt t) (h1 : S[r + 3]? = some (.dict kvs)) (h0 : getKD kvs (encS (sts sim t)) = none) :
    Rdr r qs sim (S.set (r + 3) (.dict (kvs ++ [(encS (sts sim t), .tup (qs.map fun q => .bl (q.ev t)))]))) := by
  have hl : r + 3 < S.length := lt_of_get h1
  obtain ⟨kvs2, h2, h3, h4⟩ := h.tl
  rw [h1] at h2
  cases h2
  refine ⟨?_, ?_, ?_, ⟨_, List.getElem?_set_self hl, ?_, ?_⟩⟩
  · rw [List.getElem?_set_ne (by omega)]; exact h.inst
  · rw [List.getElem?_set_ne (by omega)]; exact h.simL
  · rw [List.getElem?_set_ne (by omega)]; exact h.kn
  · rw [List.map_append, List.nodup_append]
    refine ⟨h3, by simp, fun a ha b hb e => ?_⟩
    simp at hb
    subst e
    rw [hb] at ha
    exact getKD_none encS_ok h0 ha
  · intro kd hkd
    rcases List.mem_append.mp hkd with z | z
    · exact h4 kd z
    · simp at z
      subst z
      exact ⟨t, ht, rfl, rfl⟩
theorem answers_ok {t : Cs} (k : Rk qs sim) (h : Rdr r qs sim S) (ht : okt t) {P : D → Store → Prop} {E : Nat → Store → Prop}
    (q : ∀ S', Rdr r qs sim S' → RFr r S S' → P (.tup (qs.map fun q => .bl (q.ev t))) S') : Wp (P_Reader_answers [.loc r, encS (sts sim t)] S) P E := by
  obtain ⟨kvs, h1, h2, h3⟩ := h.tl
  have hl : r + 3 < S.length := lt_of_get h1
  have fk := (rd_fld h.inst).2.2.1
  have fq := (rd_fld h.inst).2.2.2
  unfold P_Reader_answers
  refine w_run ?_
  refine w_seq (w_if (w_tv (w_bin (w_var rfl (w_un (w_var rfl (wp_eq fk (wp_eq (gKNotIn_ok h1 encS_ok) ?_))))))))
  refine ⟨_, rfl, fun e => ?_, fun e => ?_⟩
  · have h0 : getKD kvs (encS (sts sim t)) = none := by simpa using e
    let f : D → D := fun d => match P_Reader_truth fuel [.loc r, d, encS (sts sim t)] S with
      | .ok d _ => d
      | _ => .non
    have htr : ∀ q ∈ qs, P_Reader_truth fuel [.loc r, q.enc, encS (sts sim t)] S = .ok (.bl (q.ev t)) S := fun q hq => truth_ok k h ht (fuel_le (by have := k.dep q hq; omega)) (k.sub q hq)
    have hf : ∀ q ∈ qs, f q.enc = .bl (q.ev t) := fun q hq => by
      show (match P_Reader_truth fuel [.loc r, q.enc, encS (sts sim t)] S with
        | .ok d _ => d
        | _ => .non) = _
      rw [htr q hq]
    have hql := k.ql
    refine w_asg (w_call (w_all1 ?_))
    refine wp_eq (comp_pure (ds := qs.map Q.enc) (fun _ => true) f ?_ (by simp [lim]; omega) ?_) ?_
    · simp only [iVal, dUn, dVar, startE, List.map_cons, List.map_nil, List.length_cons, List.length_nil, List.cons_append, List.nil_append, List.getElem?_cons_zero, Res.ok_bind, fq]
    · intro d hd
      obtain ⟨q, hq, rfl⟩ := List.mem_map.mp hd
      refine ⟨[some (.loc r), some (encS (sts sim t)), some q.enc], rfl, rfl, fun _ => ?_⟩
      rw [hf q hq]
      refine wp_to (w_meth (w_var rfl ⟨r, _, rfl, h.inst, rfl, ?_⟩))
      refine w_all1 (w_var rfl (w_all1 (w_var rfl (w_all0 ?_))))
      exact wp_eq (htr q hq) ⟨rfl, rfl⟩
    · have hd : ((qs.map Q.enc).filter fun _ => true).map f = qs.map fun q => .bl (q.ev t) := by
        rw [filter_true, List.map_map]
        exact List.map_congr_left fun q hq => hf q hq
      rw [hd]
      refine w_all0 (wp_eq (a := .tup (qs.map fun q => .bl (q.ev t))) (S := S) rfl ?_)
      refine w_gsk (w_un (w_var rfl (wp_eq fk (w_var rfl ?_))))
      have hlen := tl_len k h2 (fun kd hk => let ⟨t, a, b, _⟩ := h3 kd hk; ⟨t, a, b⟩)
      have := pow4_le k.few
      refine wp_eq (setKAt_ok h1 encS_ok (by simp only [lim]; omega)) ?_
      rw [setKD_new h0]
      have hR := h.set_tl ht h1 h0
      refine nx_next (w_ret (w_bin (w_un (w_var rfl (wp_eq (rd_fld hR.inst).2.2.1 (w_var rfl ?_))))))
      refine wp_eq (gKIdx_ok (List.getElem?_set_self hl) encS_ok (getKD_app encS_ok h0)) ?_
      exact q _ hR ⟨by simp, fun i h1 h2 => by rw [List.getElem?_set_ne (by omega)]⟩
  · obtain ⟨d, hd⟩ : ∃ d, getKD kvs (encS (sts sim t)) = some d := by
      have e : (getKD kvs (encS (sts sim t))).isSome = true := by simpa using e
      exact Option.isSome_iff_exists.mp e
    have hm := getKD_mem hd
    obtain ⟨t', ht', e1, e2⟩ := h3 _ hm
    have e1 : encS (sts sim t) = encS (sts sim t') := e1
    have e2 : d = .tup (qs.map fun q => .bl (q.ev t')) := e2
    have e3 := encS_inj e1
    have e4 : (qs.map fun q => D.bl (q.ev t')) = qs.map fun q => D.bl (q.ev t) := List.map_congr_left fun q hq => by
      rw [ev_sts k.sims ht ht' e3 (k.sub q hq)]
    rw [e4] at e2
    subst e2
    refine w_nil (nx_next (w_ret (w_bin (w_un (w_var rfl (wp_eq fk (w_var rfl ?_)))))))
    refine wp_eq (gKIdx_ok h1 encS_ok hd) ?_
    exact q _ h .refl
end
end WF


set_option linter.all false
set_option maxRecDepth 100000
set_option maxHeartbeats 4000000
/-! # MMake: a reader is made -/
namespace WF
/-- the simple questions, collected -/
def addS (sim : List Q) : Q → List Q
  | .not p => addS sim p
  | .and p q => addS (addS sim p) q
  | .or p q => addS (addS sim p) q
  | q => if q ∈ sim then sim else sim ++ [q]
def lvs : Q → Nat
  | .not p => lvs p
  | .and p q => lvs p + lvs q
  | .or p q => lvs p + lvs q
  | _ => 1
theorem addS_len : ∀ {q : Q} {sim : List Q}, (addS sim q).length ≤ sim.length + lvs q := fun {q} => by
  induction q with
  | not p ih => exact ih
  | and p q ih1 ih2 => intro sim; have := ih1 (sim := sim); have := ih2 (sim := addS sim p); simp only [addS, lvs]; omega
  | or p q ih1 ih2 => intro sim; have := ih1 (sim := sim); have := ih2 (sim := addS sim p); simp only [addS, lvs]; omega
  | _ => intro sim; simp only [addS, lvs]; split <;> simp
theorem addS_mono : ∀ {q : Q} {sim : List Q} {x : Q}, x ∈ sim → x ∈ addS sim q := fun {q} => by
  induction q with
  | not p ih => exact ih
  | and p q ih1 ih2 => intro sim x h; exact ih2 (ih1 h)
  | or p q ih1 ih2 => intro sim x h; exact ih2 (ih1 h)
  | _ =>
    intro sim x h
    simp only [addS]
    split
    · exact h
    · exact List.mem_append_left _ h
theorem Subs.mono {sim sim' : List Q} (h : ∀ x ∈ sim, x ∈ sim') : ∀ {q : Q}, Subs sim q → Subs sim' q := fun {q} => by
  induction q with
  | not p ih => exact ih
  | and p q ih1 ih2 => exact fun a => ⟨ih1 a.1, ih2 a.2⟩
  | or p q ih1 ih2 => exact fun a => ⟨ih1 a.1, ih2 a.2⟩
  | _ => exact fun a => h _ a
theorem addS_sub : ∀ {q : Q} {sim : List Q}, Subs (addS sim q) q := fun {q} => by
  induction q with
  | not p ih => exact ih
  | and p q ih1 ih2 => intro sim; exact ⟨ih1.mono fun x hx => addS_mono hx, ih2⟩
  | or p q ih1 ih2 => intro sim; exact ⟨ih1.mono fun x hx => addS_mono hx, ih2⟩
  | _ =>
    intro sim
    simp only [addS, Subs]
    split
    · assumption
    · exact List.mem_append_right _ (by simp)
theorem addS_sims : ∀ {q : Q} {sim : List Q}, q.wf → Sims sim → Sims (addS sim q) := fun {q} => by
  induction q with
  | not p ih => exact ih
  | and p q ih1 ih2 => intro sim hw hs; exact ih2 hw.2 (ih1 hw.1 hs)
  | or p q ih1 ih2 => intro sim hw hs; exact ih2 hw.2 (ih1 hw.1 hs)
  | _ =>
    intro sim hw hs
    simp only [addS]
    split
    · exact hs
    · intro x hx
      rcases List.mem_append.mp hx with z | z
      · exact hs x z
      · rw [List.mem_singleton.mp z]; exact ⟨hw, trivial⟩
def addAll (sim : List Q) (qs : List Q) : List Q := qs.foldl addS sim
def lvsAll (qs : List Q) : Nat := (qs.map lvs).sum
theorem addAll_len : ∀ {qs sim : List Q}, (addAll sim qs).length ≤ sim.length + lvsAll qs
  | [], sim => by simp [addAll]
  | q :: qs, sim => by
    have h1 := addS_len (q := q) (sim := sim)
    have h2 := addAll_len (qs := qs) (sim := addS sim q)
    simp only [addAll, List.foldl_cons, lvsAll, List.map_cons, List.sum_cons] at h2 ⊢
    omega
theorem addAll_mono : ∀ {qs sim : List Q} {x : Q}, x ∈ sim → x ∈ addAll sim qs
  | [], _, _, h => h
  | _ :: qs, _, _, h => addAll_mono (qs := qs) (addS_mono h)
theorem addAll_sub : ∀ {qs sim : List Q}, ∀ q ∈ qs, Subs (addAll sim qs) q
  | p :: qs, sim, q, h => by
    rcases List.mem_cons.mp h with e | e
    · subst e; exact addS_sub.mono fun x hx => addAll_mono hx
    · exact addAll_sub (qs := qs) q e
theorem addAll_sims : ∀ {qs sim : List Q}, (∀ q ∈ qs, q.wf) → Sims sim → Sims (addAll sim qs)
  | [], _, _, h => h
  | q :: qs, _, hw, h => addAll_sims (qs := qs) (fun x hx => hw x (List.mem_cons_of_mem _ hx)) (addS_sims (hw q (List.mem_cons_self ..)) h)
theorem lvs_depth : ∀ {q : Q}, lvs q ≤ 2 ^ (q.depth - 1) := fun {q} => by
  induction q with
  | not p ih =>
    simp only [lvs, Q.depth]
    exact Nat.le_trans ih (Nat.pow_le_pow_right (by decide) (by omega))
  | and p q ih1 ih2 =>
    have hp := p.depth_pos
    have hq := q.depth_pos
    simp only [lvs, Q.depth]
    have h1 : 2 ^ (p.depth - 1) ≤ 2 ^ (max p.depth q.depth - 1) := Nat.pow_le_pow_right (by decide) (by omega)
    have h2 : 2 ^ (q.depth - 1) ≤ 2 ^ (max p.depth q.depth - 1) := Nat.pow_le_pow_right (by decide) (by omega)
    have h3 : 2 ^ (max p.depth q.depth + 1 - 1) = 2 * 2 ^ (max p.depth q.depth - 1) := by
      rw [show max p.depth q.depth + 1 - 1 = max p.depth q.depth - 1 + 1 by omega, Nat.pow_succ]
      omega
    omega
  | or p q ih1 ih2 =>
    have hp := p.depth_pos
    have hq := q.depth_pos
    simp only [lvs, Q.depth]
    have h1 : 2 ^ (p.depth - 1) ≤ 2 ^ (max p.depth q.depth - 1) := Nat.pow_le_pow_right (by decide) (by omega)
    have h2 : 2 ^ (q.depth - 1) ≤ 2 ^ (max p.depth q.depth - 1) := Nat.pow_le_pow_right (by decide) (by omega)
    have h3 : 2 ^ (max p.depth q.depth + 1 - 1) = 2 * 2 ^ (max p.depth q.depth - 1) := by
      rw [show max p.depth q.depth + 1 - 1 = max p.depth q.depth - 1 + 1 by omega, Nat.pow_succ]
      omega
    omega
  | _ => simp [lvs, Q.depth]
theorem lvs3 {q : Q} (h : q.depth ≤ 3) : lvs q ≤ 4 := Nat.le_trans lvs_depth (Nat.le_trans (Nat.pow_le_pow_right (by decide) (show q.depth - 1 ≤ 2 by omega)) (by decide))
theorem lvs2 {q : Q} (h : q.depth ≤ 2) : lvs q ≤ 2 := Nat.le_trans lvs_depth (Nat.le_trans (Nat.pow_le_pow_right (by decide) (show q.depth - 1 ≤ 1 by omega)) (by decide))
theorem rk_of {qs : List Q} (hw : ∀ q ∈ qs, q.wf) (hd : ∀ q ∈ qs, q.depth ≤ 3) (hl : lvsAll qs ≤ 7) (hq : qs.length ≤ 100) : Rk qs (addAll [] qs) :=
  ⟨addAll_sims hw (fun q h => by simp at h), Nat.le_trans addAll_len (by simpa using hl), addAll_sub, hd, hq⟩
section
variable {P : D → Store → Prop} {PC : Ctl → Store → Prop} {E : Nat → Store → Prop} {ρ : Env} {S : Store} {F : FS}
theorem w_for0 {g : FG} (h : PC (.next ρ) S) : Wp (forL g F [] ρ S) PC E := h
theorem w_for1 {g : FG} {d : D} {ds : List D} (h : Wp (g d ρ S) (fun ρ1 S1 => Wp (F ρ1 S1) (fun c S2 => match c with
      | .next ρ2 => Wp (forL g F ds ρ2 S2) PC E
      | .cnt ρ2 => Wp (forL g F ds ρ2 S2) PC E
      | .brk ρ2 => PC (.next ρ2) S2
      | .ret d => PC (.ret d) S2) E) E) : Wp (forL g F (d :: ds) ρ S) PC E := by
  refine wp_bind (h.imp fun ρ1 S1 h => wp_bind (h.imp fun c S2 h => ?_))
  cases c <;> exact h
end
section
variable {S : Store} {a r : Nat} {sim : List Q} {fs : List (Cs × D)}
theorem gNotIn_enc {q : Q} (hd : q.depth ≤ 60) (h : S[a]? = some (.lst (sim.map Q.enc))) : gNotIn q.enc (.loc a) S = .ok (.bl (!decide (q ∈ sim))) S := by
  have e1 : res S q.enc = q.enc := by cases q <;> rfl
  have e2 : res S (.loc a) = .lst (sim.map Q.enc) := by simp only [res, h]
  have e3 : (q.enc.plain && D.plains (sim.map Q.enc) && decide (q.enc.depth ≤ 60)) = true := by
    rw [key_plain (enc_key q), plains_enc, decide_eq_true (by rw [enc_depth]; exact hd)]
    rfl
  have : gIn q.enc (.loc a) S = .ok (.bl (decide (q ∈ sim))) S := by
    unfold gIn
    rw [e1, e2]
    have hne : ∃ ds, q.enc = .tup ds := by cases q <;> exact ⟨_, rfl⟩
    obtain ⟨ds, hds⟩ := hne
    have e4 := any_enc (q := q) (l := sim)
    rw [hds] at e3 e4 ⊢
    dsimp only
    rw [if_pos e3, e4]
  simp [gNotIn, this]
theorem collect_ok : ∀ {n : Nat} {q : Q} {S : Store} {sim : List Q}, q.depth ≤ n → q.depth ≤ 60 → S[r]? = some (.inst sReader fs) → fs.lookup sSimple = some (.loc a) → fs.lookup [99, 111, 108, 108, 101, 99, 116] = none → a ≠ r →
    S[a]? = some (.lst (sim.map Q.enc)) → sim.length + lvs q ≤ 1000 → P_Reader_collect n [.loc r, q.enc] S = .ok .non (S.set a (.lst ((addS sim q).map Q.enc)))
  | 0, q, S, sim, h, _, _, _, _, _, _, _ => by have := q.depth_pos; omega
  | n + 1, q, S, sim, h, h60, hi, hf, hc, har, hS, hl => by
    have al : a < S.length := lt_of_get hS
    have hfl : gFld sReader sSimple (.loc r) S = .ok (.loc a) S := gFld_ok hi hf
    have simp' : q.simple → P_Reader_collect (n + 1) [.loc r, q.enc] S = .ok .non (S.set a (.lst ((if q ∈ sim then sim else sim ++ [q]).map Q.enc))) := fun hs => by
      refine wp_to ?_
      have h1 : lvs q = 1 := by cases q <;> first | rfl | exact hs.elim
      have go : ∀ {PC : Ctl → Store → Prop}, PC (.next (startE 3 [.loc r, q.enc])) (S.set a (.lst ((if q ∈ sim then sim else sim ++ [q]).map Q.enc))) → Wp ((sIf (tVal (dBin gNotIn (dVar 1) (dUn (gFld [82, 101, 97, 100, 101, 114] [115, 105, 109, 112, 108, 101]) (dVar 0))))
          (sExpr (dApp (dUn (gFld [82, 101, 97, 100, 101, 114] [115, 105, 109, 112, 108, 101]) (dVar 0)) (dVar 1)))
          sNil) (startE 3 [.loc r, q.enc]) S) PC fun _ _ => False := fun {PC} hq => by
        refine w_if (w_tv (w_bin (w_var rfl (w_un (w_var rfl (wp_eq hfl (wp_eq (gNotIn_enc h60 hS) ?_)))))))
        refine ⟨_, rfl, fun e => ?_, fun e => ?_⟩
        · have e : ¬ q ∈ sim := by simpa using e
          rw [if_neg e, List.map_append] at hq
          refine w_expr (w_app (w_un (w_var rfl (wp_eq hfl ⟨a, _, rfl, hS, w_var rfl ⟨_, hS, by simp [lim]; omega, hq⟩⟩))))
        · have e : q ∈ sim := by simpa using e
          rw [if_pos e] at hq
          have : S.set a (.lst (sim.map Q.enc)) = S := by
            apply List.ext_getElem?
            intro i
            by_cases hi : a = i
            · subst hi; rw [List.getElem?_set_self al, hS]
            · rw [List.getElem?_set_ne hi]
          rw [this] at hq
          exact w_nil hq
      unfold P_Reader_collect
      refine w_run ?_
      cases q with
      | not p => exact hs.elim
      | and p q => exact hs.elim
      | or p q => exact hs.elim
      | _ =>
        refine w_if ?_
        repeat (first | (refine go ?_; exact ⟨rfl, rfl⟩) | walk_at "wf one0" | refine wp_eq rfl ?_ | walk_at "wf bool")
    cases q with
    | not p =>
      refine wp_to ?_
      have ih := collect_ok (n := n) (q := p) (by simp [Q.depth] at h; omega) (by simp [Q.depth] at h60; omega) hi hf hc har hS hl
      unfold P_Reader_collect
      refine w_run ?_
      refine w_if ?_
      walk_at "wf go1"
      refine w_for (wp_eq (a := ([p.enc], none)) (S := S) rfl ⟨rfl, ?_⟩)
      refine w_for1 (w_gn (w_expr (w_meth (w_var rfl ⟨r, _, rfl, hi, hc, ?_⟩))))
      walk_at "wf go1"
      refine wp_eq ih ?_
      exact w_for0 ⟨rfl, rfl⟩
    | and p q =>
      refine wp_to ?_
      have hl' := addS_len (q := p) (sim := sim)
      simp only [lvs] at hl
      have ih := collect_ok (n := n) (q := p) (by simp [Q.depth] at h; omega) (by simp [Q.depth] at h60; omega) hi hf hc har hS (by omega)
      have hi2 : (S.set a (.lst ((addS sim p).map Q.enc)))[r]? = some (.inst sReader fs) := by rw [List.getElem?_set_ne har]; exact hi
      have ih2 := collect_ok (n := n) (q := q) (by simp [Q.depth] at h; omega) (by simp [Q.depth] at h60; omega) hi2 hf hc har (List.getElem?_set_self al) (by omega)
      unfold P_Reader_collect
      refine w_run ?_
      refine w_if ?_
      walk_at "wf go1"
      refine w_for (wp_eq (a := ([p.enc, q.enc], none)) (S := S) rfl ⟨rfl, ?_⟩)
      refine w_for1 (w_gn (w_expr (w_meth (w_var rfl ⟨r, _, rfl, hi, hc, ?_⟩))))
      walk_at "wf go1"
      refine wp_eq ih ?_
      refine w_for1 (w_gn (w_expr (w_meth (w_var rfl ⟨r, _, rfl, hi2, hc, ?_⟩))))
      walk_at "wf go1"
      refine wp_eq ih2 ?_
      refine w_for0 ⟨rfl, ?_⟩
      rw [List.set_set]
      rfl
    | or p q =>
      refine wp_to ?_
      have hl' := addS_len (q := p) (sim := sim)
      simp only [lvs] at hl
      have ih := collect_ok (n := n) (q := p) (by simp [Q.depth] at h; omega) (by simp [Q.depth] at h60; omega) hi hf hc har hS (by omega)
      have hi2 : (S.set a (.lst ((addS sim p).map Q.enc)))[r]? = some (.inst sReader fs) := by rw [List.getElem?_set_ne har]; exact hi
      have ih2 := collect_ok (n := n) (q := q) (by simp [Q.depth] at h; omega) (by simp [Q.depth] at h60; omega) hi2 hf hc har (List.getElem?_set_self al) (by omega)
      unfold P_Reader_collect
      refine w_run ?_
      refine w_if ?_
      walk_at "wf go1"
      refine w_for (wp_eq (a := ([p.enc, q.enc], none)) (S := S) rfl ⟨rfl, ?_⟩)
      refine w_for1 (w_gn (w_expr (w_meth (w_var rfl ⟨r, _, rfl, hi, hc, ?_⟩))))
      walk_at "wf go1"
      refine wp_eq ih ?_
      refine w_for1 (w_gn (w_expr (w_meth (w_var rfl ⟨r, _, rfl, hi2, hc, ?_⟩))))
      walk_at "wf go1"
      refine wp_eq ih2 ?_
      refine w_for0 ⟨rfl, ?_⟩
      rw [List.set_set]
      rfl
    | _ => exact simp' trivial
end
theorem get_app1 {S : Store} {X : List MO} (i : Nat) : (S ++ X)[S.length + i]? = X[i]? := by
  rw [List.getElem?_append_right (by omega)]
  congr 1
  omega
theorem set_app1 {S : Store} {X : List MO} (i : Nat) (o : MO) : (S ++ X).set (S.length + i) o = S ++ X.set i o := by
  rw [List.set_append_right _ _ (by omega)]
  congr 2
  omega
def newRdr (qs : List Q) (S : Store) : Store := S ++ [rdO qs S.length, .lst ((addAll [] qs).map Q.enc), .dict [], .dict []]
theorem init_ok {qs : List Q} {S : Store} (hd : ∀ q ∈ qs, q.depth ≤ 3) (hl : lvsAll qs ≤ 7) : P_Reader_init [.loc S.length, .lst (qs.map Q.enc)] (S ++ [.inst sReader []]) = .ok .non (newRdr qs S) := by
  refine wp_to ?_
  unfold P_Reader_init
  refine w_run ?_
  have g0 : ∀ X : List MO, (S ++ X)[S.length]? = X[0]? := fun X => get_app1 0
  have s0 : ∀ (X : List MO) (o : MO), (S ++ X).set S.length o = S ++ X.set 0 o := fun X o => set_app1 0 o
  refine w_seq (w_fldD (w_var rfl (w_var rfl ⟨S.length, [], rfl, g0 _, by decide, nx_next ?_⟩)))
  rw [s0]
  refine w_seq (w_fldD (w_new (w_all0 (w_var rfl ⟨S.length, [(sQuestions, .lst (qs.map Q.enc))], rfl, ?_, by simp, nx_next ?_⟩))))
  · rw [List.append_assoc]; exact g0 _
  rw [List.append_assoc, s0]
  rw [List.length_append]
  let st : List Q → Store := fun sim => S ++ [.inst sReader [(sQuestions, .lst (qs.map Q.enc)), (sSimple, .loc (S.length + 1))], .lst (sim.map Q.enc)]
  show Wp (sSeq _ _ (startE 3 [.loc S.length, .lst (qs.map Q.enc)]) (st [])) _ _
  refine w_seq (w_forV (fun ds ρ S' => ∃ done rest x, qs = done ++ rest ∧ ds = rest.map Q.enc ∧ S' = st (addAll [] done) ∧ ρ = [some (.loc S.length), some (.lst (qs.map Q.enc)), x]) (all := qs.map Q.enc) rfl ⟨[], qs, none, rfl, rfl, rfl, rfl⟩ ?_ ?_)
  · rintro ρ S' ⟨done, rest, x, h1, h2, rfl, rfl⟩
    have : rest = [] := by simpa using h2.symm
    subst this
    rw [List.append_nil] at h1
    subst h1
    refine nx_next (w_seq (w_fldD (w_dict0 (w_var rfl ⟨S.length, _, rfl, by rw [List.append_assoc]; exact g0 _, Nat.le_of_ble_eq_true rfl, nx_next ?_⟩))))
    rw [List.append_assoc, s0]
    refine w_fldD (w_dict0 (w_var rfl ⟨S.length, _, rfl, by rw [List.append_assoc]; exact g0 _, Nat.le_of_ble_eq_true rfl, ?_⟩))
    rw [List.append_assoc, s0]
    refine ⟨rfl, ?_⟩
    have e2 : (st (addAll [] qs)).length = S.length + 2 := by simp [st]
    simp only [List.length_append, e2, newRdr, rdO]
    simp [putD, st]
  · rintro d ds ρ S' ⟨done, rest, x, h1, h2, rfl, rfl⟩
    cases rest with
    | nil => simp at h2
    | cons q rest =>
      simp only [List.map_cons, List.cons.injEq] at h2
      obtain ⟨rfl, rfl⟩ := h2
      have hq : q ∈ qs := by rw [h1]; simp
      have hlen : (addAll [] done).length + lvs q ≤ 1000 := by
        have := addAll_len (qs := done) (sim := [])
        have h3 : lvsAll qs = lvsAll done + lvs q + lvsAll rest := by
          rw [h1]
          simp [lvsAll]
          omega
        simp at this
        omega
      have hc := collect_ok (n := fuel) (q := q) (r := S.length) (a := S.length + 1) (sim := addAll [] done) (fs := [(sQuestions, .lst (qs.map Q.enc)), (sSimple, .loc (S.length + 1))]) (S := st (addAll [] done)) (fuel_le (by have := hd q hq; omega)) (by have := hd q hq; omega) (g0 _) rfl rfl (by omega) (get_app1 1) hlen
      refine w_gn (w_expr (w_meth (w_var rfl ⟨S.length, _, rfl, g0 _, rfl, ?_⟩)))
      refine w_all1 (w_var rfl (w_all0 (wp_eq hc ?_)))
      refine ⟨done ++ [q], rest, some q.enc, by rw [h1]; simp, rfl, ?_, rfl⟩
      rw [set_app1 (S := S) 1]
      simp [st, addAll]
theorem newRdr_ok {qs : List Q} {S : Store} : Rdr S.length qs (addAll [] qs) (newRdr qs S) where
  inst := get_app1 0
  simL := get_app1 1
  kn := ⟨[], get_app1 2, by simp, by simp⟩
  tl := ⟨[], get_app1 3, by simp, by simp⟩
end WF


set_option linter.all false
set_option maxRecDepth 100000
/-! # MBfs: the first text in breadth -/
namespace WF
theorem ltCs_irrefl : ∀ {a : Cs}, ltCs a a = false
  | [] => rfl
  | x :: a => by simp [ltCs, ltCs_irrefl (a := a)]
theorem ltCs_trans : ∀ {a b c : Cs}, ltCs a b = true → ltCs b c = true → ltCs a c = true
  | [], [], _, h, _ => by simp [ltCs] at h
  | [], _ :: _, [], _, h => by simp [ltCs] at h
  | [], _ :: _, _ :: _, _, _ => rfl
  | _ :: _, [], _, h, _ => by simp [ltCs] at h
  | _ :: _, _ :: _, [], _, h => by simp [ltCs] at h
  | x :: a, y :: b, z :: c, h1, h2 => by
    unfold ltCs at h1 h2 ⊢
    split at h1
    · split at h2
      · rw [if_pos (by omega)]
      · split at h2
        · rename_i h3 h4 h5; rw [if_pos (by omega)]
        · cases h2
    · split at h1
      · rename_i h3 h4
        subst h4
        split at h2
        · rename_i h5; rw [if_pos h5]
        · split at h2
          · rename_i h5 h6
            subst h6
            rw [if_neg h5, if_pos rfl]
            exact ltCs_trans h1 h2
          · cases h2
      · cases h1
theorem ltCs_app : ∀ {a b : Cs} {c d : Nat}, a.length = b.length → ltCs a b = true → ltCs (a ++ [c]) (b ++ [d]) = true
  | [], [], _, _, _, h => by simp [ltCs] at h
  | [], _ :: _, _, _, h, _ => by simp at h
  | _ :: _, [], _, _, h, _ => by simp at h
  | x :: a, y :: b, c, d, hl, h => by
    rw [List.cons_append, List.cons_append]
    unfold ltCs at h ⊢
    split at h
    · rename_i h1; rw [if_pos h1]
    · split at h
      · rename_i h1 h2
        rw [if_neg h1, if_pos h2]
        exact ltCs_app (by simpa using hl) h
      · cases h
theorem ltCs_one : ∀ {a : Cs} {c d : Nat}, c < d → ltCs (a ++ [c]) (a ++ [d]) = true
  | [], c, d, h => by simp [ltCs, h]
  | x :: a, c, d, h => by simp [ltCs, ltCs_one (a := a) h]
/-- a text comes ahead of another one -/
def ahead (u t : Cs) : Prop := u.length < t.length ∨ (u.length = t.length ∧ ltCs u t = true)
/-- at most -/
def leCs (a b : Cs) : Prop := a = b ∨ ltCs a b = true
theorem leCs.trans {a b c : Cs} (h : leCs a b) (k : leCs b c) : leCs a c := by
  rcases h with h | h
  · rw [h]; exact k
  · rcases k with k | k
    · rw [← k]; exact .inr h
    · exact .inr (ltCs_trans h k)
section
variable {sim : List Q} {w : Cs → Bool}
/-- the texts of the level k, the first ones of their states -/
structure Lev (sim : List Q) (w : Cs → Bool) (k : Nat) (T : List Cs) : Prop where
  ok : ∀ t ∈ T, okt t ∧ t.length = k
  sorted : T.Pairwise fun a b => ltCs a b = true
  all : ∀ u, okt u → u.length = k → (∃ v, okt v ∧ v.length < k ∧ sts sim v = sts sim u) ∨ ∃ t ∈ T, sts sim t = sts sim u ∧ leCs t u
  no : ∀ u, okt u → u.length < k → w u = false
/-- the keys that were met -/
structure Met (sim : List Q) (k : Nat) (ks : List D) : Prop where
  nd : ks.Nodup
  of : ∀ x ∈ ks, ∃ t, okt t ∧ t.length ≤ k ∧ x = encS (sts sim t)
  to : ∀ t, okt t → t.length ≤ k → encS (sts sim t) ∈ ks
/-- within a level: G, the next texts that were looked at; L, those that were kept -/
structure Mid (sim : List Q) (k n : Nat) (G L : List Cs) (ks : List D) : Prop where
  gok : ∀ g ∈ G, okt g ∧ g.length = k + 1
  sub : ∀ t ∈ L, t ∈ G
  sorted : L.Pairwise fun a b => ltCs a b = true
  cover : ∀ g ∈ G, (∃ v, okt v ∧ v.length ≤ k ∧ sts sim v = sts sim g) ∨ ∃ t ∈ L, sts sim t = sts sim g ∧ leCs t g
  nd : ks.Nodup
  of : ∀ x ∈ ks, (∃ t, okt t ∧ t.length ≤ k ∧ x = encS (sts sim t)) ∨ ∃ t ∈ L, x = encS (sts sim t)
  to : ∀ t, okt t → t.length ≤ k → encS (sts sim t) ∈ ks
  toL : ∀ t ∈ L, encS (sts sim t) ∈ ks
  len : ks.length = n + L.length
theorem Mid.start {k : Nat} {ks : List D} (m : Met sim k ks) : Mid sim k ks.length [] [] ks :=
  ⟨by simp, by simp, .nil, by simp, m.nd, fun x hx => .inl (m.of x hx), m.to, by simp, rfl⟩
/-- one text more, its state is known -/
theorem Mid.old {k n : Nat} {G L : List Cs} {ks : List D} (m : Mid sim k n G L ks) {g : Cs} (hg : okt g ∧ g.length = k + 1) (hlt : ∀ x ∈ G, ltCs x g = true) (h : encS (sts sim g) ∈ ks) : Mid sim k n (G ++ [g]) L ks := by
  refine ⟨fun x hx => ?_, fun t ht => List.mem_append_left _ (m.sub t ht), m.sorted, fun x hx => ?_, m.nd, m.of, m.to, m.toL, m.len⟩
  · rcases List.mem_append.mp hx with z | z
    · exact m.gok x z
    · rw [List.mem_singleton.mp z]; exact hg
  · rcases List.mem_append.mp hx with z | z
    · exact m.cover x z
    · rw [List.mem_singleton.mp z]
      rcases m.of _ h with ⟨t, h1, h2, h3⟩ | ⟨t, h1, h2⟩
      · exact .inl ⟨t, h1, h2, (encS_inj h3).symm⟩
      · exact .inr ⟨t, h1, (encS_inj h2).symm, .inr (hlt t (m.sub t h1))⟩
theorem Mid.new {k n : Nat} {G L : List Cs} {ks : List D} (m : Mid sim k n G L ks) {g : Cs} (hg : okt g ∧ g.length = k + 1) (hlt : ∀ x ∈ G, ltCs x g = true) (h : encS (sts sim g) ∉ ks) : Mid sim k n (G ++ [g]) (L ++ [g]) (ks ++ [encS (sts sim g)]) := by
  refine ⟨fun x hx => ?_, fun t ht => ?_, ?_, fun x hx => ?_, ?_, fun x hx => ?_, fun t h1 h2 => List.mem_append_left _ (m.to t h1 h2), fun t ht => ?_, ?_⟩
  · rcases List.mem_append.mp hx with z | z
    · exact m.gok x z
    · rw [List.mem_singleton.mp z]; exact hg
  · rcases List.mem_append.mp ht with z | z
    · exact List.mem_append_left _ (m.sub t z)
    · exact List.mem_append_right _ z
  · rw [List.pairwise_append]
    exact ⟨m.sorted, by simp, fun a ha b hb => by rw [List.mem_singleton.mp hb]; exact hlt a (m.sub a ha)⟩
  · rcases List.mem_append.mp hx with z | z
    · rcases m.cover x z with h | ⟨t, h1, h2⟩
      · exact .inl h
      · exact .inr ⟨t, List.mem_append_left _ h1, h2⟩
    · rw [List.mem_singleton.mp z]
      exact .inr ⟨g, by simp, rfl, .inl rfl⟩
  · rw [List.nodup_append]
    exact ⟨m.nd, by simp, fun a ha b hb e => h (by rw [← List.mem_singleton.mp hb, ← e]; exact ha)⟩
  · rcases List.mem_append.mp hx with z | z
    · rcases m.of x z with h | ⟨t, h1, h2⟩
      · exact .inl h
      · exact .inr ⟨t, List.mem_append_left _ h1, h2⟩
    · exact .inr ⟨g, by simp, List.mem_singleton.mp z⟩
  · rcases List.mem_append.mp ht with z | z
    · exact List.mem_append_left _ (m.toL t z)
    · rw [List.mem_singleton.mp z]; simp
  · rw [List.length_append, List.length_append, m.len]
    simp
    omega
/-- the next texts of a level -/
def nextT (T : List Cs) : List Cs := T.flatMap fun t => [t ++ [97], t ++ [98], t ++ [99], t ++ [100]]
theorem mem_nextT {T : List Cs} {g : Cs} : g ∈ nextT T ↔ ∃ t ∈ T, ∃ c, okc c ∧ g = t ++ [c] := by
  unfold nextT
  rw [List.mem_flatMap]
  constructor
  · rintro ⟨t, ht, h⟩
    simp at h
    rcases h with h | h | h | h
    · exact ⟨t, ht, 97, .inl rfl, h⟩
    · exact ⟨t, ht, 98, .inr (.inl rfl), h⟩
    · exact ⟨t, ht, 99, .inr (.inr (.inl rfl)), h⟩
    · exact ⟨t, ht, 100, .inr (.inr (.inr rfl)), h⟩
  · rintro ⟨t, ht, c, hc, rfl⟩
    refine ⟨t, ht, ?_⟩
    rcases hc with h | h | h | h <;> subst h <;> simp
theorem Lev.next {k n : Nat} {T L : List Cs} {ks : List D} (hw : ∀ t u, okt t → okt u → sts sim t = sts sim u → w t = w u) (l : Lev sim w k T) (hT : ∀ t ∈ T, w t = false) (m : Mid sim k n (nextT T) L ks) : Lev sim w (k + 1) L ∧ Met sim (k + 1) ks := by
  have allN : ∀ u, okt u → u.length = k + 1 → (∃ v, okt v ∧ v.length < k + 1 ∧ sts sim v = sts sim u) ∨ ∃ t ∈ L, sts sim t = sts sim u ∧ leCs t u := fun u hu hl => by
    rcases List.eq_nil_or_concat u with e | ⟨u0, c, e⟩
    · rw [e] at hl; simp at hl
    · rw [List.concat_eq_append] at e
      subst e
      obtain ⟨h0, hc⟩ := okt_snoc.mp hu
      have hl0 : u0.length = k := by simpa using hl
      rcases l.all u0 h0 hl0 with ⟨v, h1, h2, h3⟩ | ⟨t, h1, h2, h3⟩
      · exact .inl ⟨v ++ [c], okt_snoc.mpr ⟨h1, hc⟩, by simp; omega, sts_ext h3 [c]⟩
      · have hg : t ++ [c] ∈ nextT T := mem_nextT.mpr ⟨t, h1, c, hc, rfl⟩
        have e2 : sts sim (t ++ [c]) = sts sim (u0 ++ [c]) := sts_ext h2 [c]
        rcases m.cover _ hg with ⟨v, h4, h5, h6⟩ | ⟨t', h4, h5, h6⟩
        · exact .inl ⟨v, h4, by omega, h6.trans e2⟩
        · refine .inr ⟨t', h4, h5.trans e2, h6.trans ?_⟩
          rcases h3 with h3 | h3
          · rw [h3]; exact .inl rfl
          · exact .inr (ltCs_app (by rw [(l.ok t h1).2, hl0]) h3)
  refine ⟨⟨fun t ht => m.gok t (m.sub t ht), m.sorted, allN, fun u hu hl => ?_⟩, ⟨m.nd, fun x hx => ?_, fun t ht hl => ?_⟩⟩
  · by_cases e : u.length < k
    · exact l.no u hu e
    · rcases l.all u hu (by omega) with ⟨v, h1, h2, h3⟩ | ⟨t, h1, h2, _⟩
      · rw [← hw v u h1 hu h3]; exact l.no v h1 h2
      · rw [← hw t u (l.ok t h1).1 hu h2]; exact hT t h1
  · rcases m.of x hx with ⟨t, h1, h2, h3⟩ | ⟨t, h1, h2⟩
    · exact ⟨t, h1, by omega, h3⟩
    · have := m.gok t (m.sub t h1)
      exact ⟨t, this.1, by omega, h2⟩
  · by_cases e : t.length ≤ k
    · exact m.to t ht e
    · rcases allN t ht (by omega) with ⟨v, h1, h2, h3⟩ | ⟨t', h1, h2, _⟩
      · rw [← h3]; exact m.to v h1 (by omega)
      · rw [← h2]; exact m.toL t' h1
/-- the level's text that is wanted first is the first of all -/
theorem Lev.found {k : Nat} {A B : List Cs} {t : Cs} (hw : ∀ t u, okt t → okt u → sts sim t = sts sim u → w t = w u) (l : Lev sim w k (A ++ t :: B)) (hA : ∀ t ∈ A, w t = false) : ∀ u, okt u → ahead u t → w u = false := by
  have htk := (l.ok t (by simp)).2
  rintro u hu (h | ⟨h, hlt⟩)
  · exact l.no u hu (by omega)
  · rcases l.all u hu (by omega) with ⟨v, h1, h2, h3⟩ | ⟨t', h1, h2, h3⟩
    · rw [← hw v u h1 hu h3]; exact l.no v h1 h2
    · rw [← hw t' u (l.ok t' h1).1 hu h2]
      have lt' : ltCs t' t = true := by
        rcases h3 with h3 | h3
        · rw [h3]; exact hlt
        · exact ltCs_trans h3 hlt
      rcases List.mem_append.mp h1 with z | z
      · exact hA t' z
      · exfalso
        have hs := (List.pairwise_append.mp l.sorted).2.1
        rcases List.mem_cons.mp z with z | z
        · rw [z, ltCs_irrefl] at lt'; cases lt'
        · have := (List.pairwise_cons.mp hs).1 t' z
          have := ltCs_trans lt' this
          rw [ltCs_irrefl] at this; cases this
/-- no level more: nothing is wanted -/
theorem Lev.none {k : Nat} (hw : ∀ t u, okt t → okt u → sts sim t = sts sim u → w t = w u) (l : Lev sim w k []) : ∀ u, okt u → w u = false := by
  have short : ∀ u, okt u → ∃ v, okt v ∧ v.length < k ∧ sts sim v = sts sim u := by
    have one : ∀ u, okt u → u.length = k → ∃ v, okt v ∧ v.length < k ∧ sts sim v = sts sim u := fun u hu hl => by
      rcases l.all u hu hl with h | ⟨t, h, _⟩
      · exact h
      · simp at h
    refine snoc_ind (fun h => ?_) (fun t c ih h => ?_)
    · by_cases e : 0 < k
      · exact ⟨[], okt_nil, e, rfl⟩
      · exact one [] h (by simp; omega)
    · obtain ⟨ht, hc⟩ := okt_snoc.mp h
      obtain ⟨v, h1, h2, h3⟩ := ih ht
      have e := sts_ext h3 [c]
      by_cases q : (v ++ [c]).length < k
      · exact ⟨v ++ [c], okt_snoc.mpr ⟨h1, hc⟩, q, e⟩
      · obtain ⟨v', h4, h5, h6⟩ := one (v ++ [c]) (okt_snoc.mpr ⟨h1, hc⟩) (by simp at q ⊢; omega)
        exact ⟨v', h4, h5, h6.trans e⟩
  intro u hu
  obtain ⟨v, h1, h2, h3⟩ := short u hu
  rw [← hw v u h1 hu h3]
  exact l.no v h1 h2
theorem Lev.zero : Lev sim w 0 [[]] := ⟨fun t ht => by rw [List.mem_singleton.mp ht]; exact ⟨okt_nil, rfl⟩, by simp, fun u hu hl => .inr ⟨[], by simp, by rw [List.length_eq_zero_iff.mp hl], .inl (List.length_eq_zero_iff.mp hl).symm⟩, fun u _ hl => by omega⟩
theorem Met.zero : Met sim 0 [encS (sts sim [])] := ⟨by simp, fun x hx => ⟨[], okt_nil, by simp, List.mem_singleton.mp hx⟩, fun t _ hl => by rw [List.length_eq_zero_iff.mp (by omega : t.length = 0)]; simp⟩
end
end WF


set_option linter.all false
set_option maxRecDepth 100000
set_option maxHeartbeats 4000000
/-! # MLoop: walks over a level, what stays of the store -/
namespace WF
/-- a list, in the store or not -/
def lvAt (S : Store) (d : D) (ds : List D) : Prop := d = .lst ds ∨ ∃ l, d = .loc l ∧ S[l]? = some (.lst ds)
section
variable {PC : Ctl → Store → Prop} {E : Nat → Store → Prop} {ρ : Env} {S : Store} {F : FS}
theorem w_forA {g : FG} (I : List D → Env → Store → Prop) {i : Nat} {d : D} {all : List D} (hρ : ρ[i]? = some (some d)) (hd : lvAt S d all) (h0 : I all ρ S) (hl : ∀ ds ρ S, I ds ρ S → lvAt S d all) (hn : ∀ ρ S, I [] ρ S → PC (.next ρ) S)
    (hs : ∀ d ds ρ S, I (d :: ds) ρ S → Wp (g d ρ S) (fun ρ1 S1 => Wp (F ρ1 S1) (fun c S2 => match c with
      | .next ρ2 => I ds ρ2 S2
      | .cnt ρ2 => I ds ρ2 S2
      | .brk ρ2 => PC (.next ρ2) S2
      | .ret d => PC (.ret d) S2) E) E) : Wp (sFor (iVal (dVar i)) g F ρ S) PC E := by
  rcases hd with rfl | ⟨l, rfl, hS⟩
  · exact w_forV I (all := all) (by simp only [iVal, dVar, hρ, Res.ok_bind]) h0 hn hs
  · refine w_forS I (n := l) (all := all) (by simp only [iVal, dVar, hρ, Res.ok_bind, hS]) h0 (fun ds ρ S h => ?_) hn hs
    rcases hl ds ρ S h with z | ⟨l', z, hz⟩
    · cases z
    · cases z; exact hz
end
theorem gNe_lv {S : Store} {d : D} {ds : List D} (h : lvAt S d ds) (hp : D.plains ds = true) : gNe d (.lst []) S = .ok (.bl (!ds.isEmpty)) S := by
  have hr : res S d = .lst ds := by
    rcases h with rfl | ⟨l, rfl, hS⟩
    · rfl
    · simp only [res, hS]
  have : gEq d (.lst []) S = .ok (.bl ds.isEmpty) S := by
    unfold gEq
    rw [hr]
    have h2 : (D.lst ds).eqv (.lst []) = ds.isEmpty := by
      simp only [D.eqv]
      cases ds <;> rfl
    have h3 : ((D.lst ds).plain && (D.lst []).plain && decide (min (D.lst ds).depth (D.lst []).depth ≤ 60)) = true := by
      have : (D.lst []).depth = 1 := rfl
      simp only [D.plain, hp, D.plains, Bool.and_self, Bool.true_and, decide_eq_true_iff]
      omega
    show (if ((D.lst ds).plain && (D.lst []).plain && decide (min (D.lst ds).depth (D.lst []).depth ≤ 60)) = true then (Res.ok (D.bl ((D.lst ds).eqv (.lst []))) S : Res D) else .un) = _
    rw [if_pos h3, h2]
  simp [gNe, this]
/-- below n nothing but the reader's tables is changed, nothing captured comes above -/
structure Frm (r n : Nat) (S S' : Store) : Prop where
  le : n ≤ S'.length
  at_ : ∀ i, i < n → i ≠ r + 2 → i ≠ r + 3 → S'[i]? = S[i]?
  cap : ∀ i mo, n ≤ i → S'[i]? = some mo → mo.cap = false
theorem Frm.refl {r n : Nat} {S : Store} (h : n = S.length) : Frm r n S S := ⟨by omega, fun _ _ _ _ => rfl, fun i mo hi e => by
  rw [List.getElem?_eq_none (by omega)] at e; cases e⟩
theorem Frm.rfr {r n : Nat} {S S1 S2 : Store} (h : Frm r n S S1) (k : RFr r S1 S2) (hr : r + 3 < n) : Frm r n S S2 :=
  ⟨by rw [k.len]; exact h.le, fun i h1 h2 h3 => (k.at_ i h2 h3).trans (h.at_ i h1 h2 h3), fun i mo hi e => by
    rw [k.at_ i (by omega) (by omega)] at e
    exact h.cap i mo hi e⟩
theorem Frm.add {r n : Nat} {S S1 : Store} {mo : MO} (h : Frm r n S S1) (hm : mo.cap = false) : Frm r n S (S1 ++ [mo]) :=
  ⟨by rw [List.length_append]; exact Nat.le_trans h.le (Nat.le_add_right _ _), fun i h1 h2 h3 => by
    rw [List.getElem?_append_left (Nat.lt_of_lt_of_le h1 h.le)]; exact h.at_ i h1 h2 h3, fun i mo' hi e => by
    by_cases q : i < S1.length
    · rw [List.getElem?_append_left q] at e; exact h.cap i mo' hi e
    · rw [List.getElem?_append_right (by omega)] at e
      have := lt_of_get e
      have z : i - S1.length = 0 := by simpa using this
      rw [z] at e
      simp at e
      rw [← e]; exact hm⟩
theorem Frm.set {r n i : Nat} {S S1 : Store} {mo : MO} (h : Frm r n S S1) (hi : n ≤ i) (hm : mo.cap = false) : Frm r n S (S1.set i mo) :=
  ⟨by rw [List.length_set]; exact h.le, fun j h1 h2 h3 => by rw [List.getElem?_set_ne (by omega)]; exact h.at_ j h1 h2 h3, fun j mo' hj e => by
    by_cases q : i = j
    · subst q
      have hl : i < S1.length := by have := lt_of_get e; rwa [List.length_set] at this
      rw [List.getElem?_set_self hl] at e
      cases e; exact hm
    · rw [List.getElem?_set_ne q] at e; exact h.cap j mo' hj e⟩
theorem Rdr.add {r : Nat} {qs sim : List Q} {S : Store} {mo : MO} (h : Rdr r qs sim S) : Rdr r qs sim (S ++ [mo]) := by
  have g : ∀ i o, S[i]? = some o → (S ++ [mo])[i]? = some o := fun i o e => by rw [List.getElem?_append_left (lt_of_get e)]; exact e
  obtain ⟨a, b, ⟨k1, c1, c2⟩, ⟨k2, d1, d2⟩⟩ := h
  exact ⟨g _ _ a, g _ _ b, ⟨k1, g _ _ c1, c2⟩, ⟨k2, g _ _ d1, d2⟩⟩
theorem Rdr.set {r i : Nat} {qs sim : List Q} {S : Store} {mo : MO} (h : Rdr r qs sim S) (hi : r + 3 < i) : Rdr r qs sim (S.set i mo) := by
  have g : ∀ j o, j ≤ r + 3 → S[j]? = some o → (S.set i mo)[j]? = some o := fun j o hj e => by rw [List.getElem?_set_ne (by omega)]; exact e
  obtain ⟨a, b, ⟨k1, c1, c2⟩, ⟨k2, d1, d2⟩⟩ := h
  exact ⟨g _ _ (by omega) a, g _ _ (by omega) b, ⟨k1, g _ _ (by omega) c1, c2⟩, ⟨k2, g _ _ (by omega) d1, d2⟩⟩
theorem met_len {qs sim : List Q} {k : Nat} {kvs : List (D × D)} (K : Rk qs sim) (nd : (kvs.map (·.1)).Nodup) (h : ∀ x ∈ kvs.map (·.1), ∃ t, okt t ∧ x = encS (sts sim t)) : kvs.length ≤ 85 * 4 ^ sim.length :=
  tl_len K nd fun kd hk => let ⟨t, a, b⟩ := h kd.1 (List.mem_map_of_mem hk); ⟨t, a, b⟩
end WF


set_option linter.all false
set_option maxRecDepth 100000
set_option maxHeartbeats 4000000
/-! # MFirst: Reader.first -/
namespace WF
/-- one item of a level -/
def itemF (sim : List Q) (t : Cs) : D := .tup [encS (sts sim t), .str t]
/-- the body of first, t the test of a state -/
def firstB (t : FT) : FS :=
  (sSeq (sAsg (dMeth [82, 101, 97, 100, 101, 114] [115, 116, 97, 114, 116] P_Reader_start (dVar 0) []) (gName 2))
    (sSeq (sPar [3, 4] [(dDict1 (dVar 2) (dC (.bl true))), (dLst [(dTup [(dVar 2), (dC (.str []))])])])
    (sSeq (sWhile (fun _ _ => 16777216) (tVal (dBin gNe (dVar 4) (dLst [])))
    (sSeq (sAsg (dNew []) (gName 5))
    (sSeq (sFor (iVal (dVar 4)) (gTup [(gName 6), (gName 7)])
    (sSeq (sIf t
    (sRet (dVar 7))
    sNil)
    (sFor (iVal (dC (.str [97, 98, 99, 100]))) (gName 8)
    (sSeq (sAsg (dMeth [82, 101, 97, 100, 101, 114] [115, 116, 101, 112] P_Reader_step (dVar 0) [(dVar 6), (dVar 8)]) (gName 9))
    (sIf (tVal (dBin gKNotIn (dVar 9) (dVar 3)))
    (sSeq (sAsg (dC (.bl true)) (gSubK (dVar 3) (dVar 9)))
    (sExpr (dApp (dVar 5) (dTup [(dVar 9), (dBin gAdd (dVar 7) (dVar 8))]))))
    sNil)))))
    (sAsg (dVar 5) (gName 4)))))
    (sRet (dC .non)))))
theorem plains_items {sim : List Q} : ∀ T : List Cs, D.plains (T.map (itemF sim)) = true
  | [] => rfl
  | t :: T => by
    have h : (itemF sim t).isKey = true := by simp [itemF, D.isKey, D.areKeys, encS_key]
    simp only [List.map_cons, D.plains, key_plain h, plains_items T, Bool.and_self]
section
variable {qs sim : List Q} {r n0 : Nat} {S0 : Store} {fv : D} {w : Cs → Bool} {tt : FT} {P : D → Store → Prop} {E : Nat → Store → Prop}
/-- within a level -/
structure InL (qs sim : List Q) (r n0 m l5 k n : Nat) (S0 : Store) (lvd : D) (T G : List Cs) (S : Store) : Prop where
  rd : Rdr r qs sim S
  frm : Frm r n0 S0 S
  lv : lvAt S lvd (T.map (itemF sim))
  mid : ∃ L kvs, S[m]? = some (.dict kvs) ∧ S[l5]? = some (.lst (L.map (itemF sim))) ∧ Mid sim k n G L (kvs.map (·.1))
theorem w_words {ρ : Env} {S : Store} {PC : Ctl → Store → Prop} {F : FS} (I : List Nat → Env → Store → Prop) (h0 : I [97, 98, 99, 100] ρ S) (hn : ∀ ρ S, I [] ρ S → PC (.next ρ) S)
    (hs : ∀ c cs ρ S, I (c :: cs) ρ S → Wp (F (ρ.set 8 (some (.str [c]))) S) (fun k S2 => ∃ ρ2, k = .next ρ2 ∧ I cs ρ2 S2) E) : Wp (sFor (iVal (dC (.str [97, 98, 99, 100]))) (gName 8) F ρ S) PC E := by
  refine w_forV (fun ds ρ S => ∃ cs, ds = signs cs ∧ I cs ρ S) (all := signs [97, 98, 99, 100]) rfl ⟨_, rfl, h0⟩ ?_ ?_
  · rintro ρ S ⟨cs, h1, h2⟩
    have : cs = [] := by simpa [signs] using h1.symm
    subst this
    exact hn ρ S h2
  · rintro d ds ρ S ⟨cs, h1, h2⟩
    cases cs with
    | nil => simp [signs] at h1
    | cons c cs =>
      simp only [signs, List.map_cons, List.cons.injEq] at h1
      obtain ⟨rfl, rfl⟩ := h1
      refine w_gn ((hs c cs ρ S h2).imp fun k S2 h => ?_)
      obtain ⟨ρ2, rfl, h⟩ := h
      exact ⟨cs, rfl, h⟩
theorem first_ok (K : Rk qs sim) (hr : r + 3 < n0) (hn0 : n0 = S0.length) (h : Rdr r qs sim S0) (hw : ∀ t u, okt t → okt u → sts sim t = sts sim u → w t = w u)
    (ht : ∀ ρ S t, ρ[0]? = some (some (.loc r)) → ρ[1]? = some (some fv) → ρ[6]? = some (some (encS (sts sim t))) → okt t → t.length ≤ 2000000 → Rdr r qs sim S → Frm r n0 S0 S → Wp (tt ρ S) (fun b S' => b = w t ∧ Rdr r qs sim S' ∧ RFr r S S') E)
    (qn : ∀ S', Rdr r qs sim S' → Frm r n0 S0 S' → (∀ t, okt t → w t = false) → P .non S')
    (qs_ : ∀ t S', Rdr r qs sim S' → Frm r n0 S0 S' → okt t → w t = true → (∀ u, okt u → ahead u t → w u = false) → t.length ≤ 2000000 → P (.str t) S') : Wp (runDef 10 (firstB tt) [.loc r, fv] S0) P E := by
  have hN := pow4_le K.few
  refine w_run ?_
  unfold firstB
  refine w_seq (w_asg (w_meth (w_var rfl ⟨r, _, rfl, h.inst, rfl, w_all0 (wp_eq (start_ok K h) (w_gn (nx_next ?_)))⟩)))
  refine w_seq (w_par (w_all1 (w_dict1 (w_var rfl (w_c ⟨encS_ok, w_all1 (w_lst (w_all1 (w_tup (w_all1 (w_var rfl (w_all1 (w_c (w_all0 (w_all0 (w_all0 (nx_next ?_)))))))))))⟩)))))
  -- the loop over the levels
  refine w_seq (w_while (I := fun mm ρ S => ∃ k T lvd kvs x5 x6 x7 x8 x9, mm + k = 85 * 4 ^ sim.length + 1 ∧ ρ = [some (.loc r), some fv, some (encS (sts sim [])), some (.loc n0), some lvd, x5, x6, x7, x8, x9] ∧ Rdr r qs sim S ∧ Frm r n0 S0 S ∧ lvAt S lvd (T.map (itemF sim)) ∧ (∀ l, lvd = .loc l → n0 < l) ∧
    S[n0]? = some (.dict kvs) ∧ Lev sim w k T ∧ Met sim k (kvs.map (·.1)) ∧ k ≤ kvs.length ∧ (T ≠ [] → k + 1 ≤ kvs.length)) (m := 85 * 4 ^ sim.length + 1) (show _ < 16777216 by omega) ?_ ?_)
  · subst hn0
    refine ⟨0, [[]], .lst [.tup [encS (sts sim []), .str []]], [(encS (sts sim []), .bl true)], none, none, none, none, none, by omega, rfl, h.add, (Frm.refl rfl).add rfl, .inl rfl, fun l z => (by cases z), by simp, Lev.zero, Met.zero, by simp, by simp⟩
  rintro mm ρ S ⟨k, T, lvd, kvs, x5, x6, x7, x8, x9, hmm, rfl, hR, hF, hlv, hll, hm, hL, hM, hk, hk1⟩
  have hkn : kvs.length ≤ 85 * 4 ^ sim.length := met_len (k := 0) K hM.nd fun x hx => let ⟨t, a, _, b⟩ := hM.of x hx; ⟨t, a, b⟩
  refine w_tv (w_bin (w_var rfl (w_lst (w_all0 (wp_eq (gNe_lv hlv (plains_items T)) ⟨_, rfl, fun hT => ?_, fun hT => ?_⟩)))))
  rotate_left
  · have : T = [] := by simpa using hT
    subst this
    exact nx_next (w_ret (w_c (qn S hR hF (hL.none hw))))
  have hTne : T ≠ [] := by
    intro z; rw [z] at hT; simp at hT
  have hk2 := hk1 hTne
  have mlt : n0 < S.length := lt_of_get hm
  refine w_seq (w_asg (w_new (w_all0 (w_gn (nx_next ?_)))))
  -- the loop over a level
  have hlv' : lvAt (S ++ [.lst []]) lvd (T.map (itemF sim)) := by
    rcases hlv with z | ⟨l, z, hz⟩
    · exact .inl z
    · exact .inr ⟨l, z, by rw [List.getElem?_append_left (lt_of_get hz)]; exact hz⟩
  have hll2 : ∀ l, lvd = .loc l → n0 < l ∧ l < S.length := fun l z => by
    refine ⟨hll l z, ?_⟩
    rcases hlv with y | ⟨l', y, hz⟩
    · rw [z] at y; cases y
    · rw [z] at y; cases y; exact lt_of_get hz
  refine w_seq (w_forA (fun ds ρ S' => ∃ A B x6 x7 x8 x9, T = A ++ B ∧ ds = B.map (itemF sim) ∧ ρ = [some (.loc r), some fv, some (encS (sts sim [])), some (.loc n0), some lvd, some (.loc S.length), x6, x7, x8, x9] ∧ (∀ t ∈ A, w t = false) ∧
    InL qs sim r n0 n0 S.length k kvs.length S0 lvd T (nextT A) S') (i := 4) (d := lvd) (all := T.map (itemF sim)) rfl hlv' ?_ ?_ ?_ ?_)
  · refine ⟨[], T, x6, x7, x8, x9, rfl, rfl, rfl, by simp, hR.add, hF.add rfl, hlv', [], kvs, ?_, ?_, by have := Mid.start hM; rw [List.length_map] at this; exact this⟩
    · rw [List.getElem?_append_left mlt]; exact hm
    · simp
  · rintro ds ρ S' ⟨A, B, y6, y7, y8, y9, h1, h2, h3, h4, h5⟩
    exact h5.lv
  · -- the level's end
    rintro ρ S' ⟨A, B, y6, y7, y8, y9, h1, h2, rfl, h4, h5⟩
    have hB : B = [] := by simpa using h2.symm
    subst hB
    rw [List.append_nil] at h1
    subst h1
    obtain ⟨hR', hF', hlv2, L, kvs', e1, e2, e3⟩ := h5
    obtain ⟨n1, n2⟩ := hL.next hw h4 e3
    have elen : kvs'.length = kvs.length + L.length := by
      have := e3.len
      rwa [List.length_map] at this
    refine nx_next (w_asg (w_var rfl (w_gn ?_)))
    have hkn' : kvs'.length ≤ 85 * 4 ^ sim.length := met_len (k := 0) K n2.nd fun x hx => let ⟨t, a, _, b⟩ := n2.of x hx; ⟨t, a, b⟩
    refine ⟨mm - 1, by omega, k + 1, L, .loc S.length, kvs', some (.loc S.length), y6, y7, y8, y9, by omega, rfl, hR', hF', .inr ⟨_, rfl, e2⟩, fun l z => (by cases z; exact mlt), e1, n1, n2, by omega, fun hL => ?_⟩
    have : L.length ≠ 0 := fun z => hL (List.length_eq_zero_iff.mp z)
    omega
  -- one text of the level
  rintro d ds ρ S' ⟨A, B, y6, y7, y8, y9, h1, h2, rfl, h4, h5⟩
  cases B with
  | nil => simp at h2
  | cons t B =>
  simp only [List.map_cons, List.cons.injEq] at h2
  obtain ⟨rfl, rfl⟩ := h2
  have htT : t ∈ T := by rw [h1]; simp
  obtain ⟨hto, htl⟩ := hL.ok t htT
  refine w_gt rfl (w_ga1 (w_gn (w_ga1 (w_gn (w_ga0 ?_)))))
  refine w_seq (w_if ((ht _ S' t rfl rfl rfl hto (by omega) h5.rd h5.frm).imp fun b S1 hb => ?_))
  obtain ⟨rfl, hR1, hRF1⟩ := hb
  have h5' : InL qs sim r n0 n0 S.length k kvs.length S0 lvd T (nextT A) S1 := by
    obtain ⟨a1, a2, a3, L, kvs', a4, a5, a6⟩ := h5
    refine ⟨hR1, a2.rfr hRF1 hr, ?_, L, kvs', by rw [hRF1.at_ _ (by omega) (by omega)]; exact a4, by rw [hRF1.at_ _ (by omega) (by omega)]; exact a5, a6⟩
    rcases a3 with z | ⟨l, z, hz⟩
    · exact .inl z
    · have := hll2 l z
      exact .inr ⟨l, z, by rw [hRF1.at_ _ (by omega) (by omega)]; exact hz⟩
  clear h5
  refine ⟨fun hwt => ?_, fun hwt => ?_⟩
  · rw [h1] at hL
    exact w_ret (w_var rfl (nx_ret (qs_ t S1 hR1 h5'.frm hto hwt (hL.found hw h4) (by omega))))
  refine w_nil (nx_next ?_)
  -- its four next texts
  refine w_words (fun cs ρ S2 => ∃ ds x8 x9, [97, 98, 99, 100] = ds ++ cs ∧ ρ = [some (.loc r), some fv, some (encS (sts sim [])), some (.loc n0), some lvd, some (.loc S.length), some (encS (sts sim t)), some (.str t), x8, x9] ∧ InL qs sim r n0 n0 S.length k kvs.length S0 lvd T (nextT A ++ ds.map fun c => t ++ [c]) S2) ?_ ?_ ?_
  · exact ⟨[], y8, y9, rfl, rfl, by simpa using h5'⟩
  · rintro ρ S2 ⟨ds, z8, z9, g1, rfl, g3⟩
    rw [List.append_nil] at g1
    subst g1
    refine ⟨A ++ [t], B, _, _, z8, z9, by rw [h1]; simp, rfl, rfl, fun u hu => ?_, ?_⟩
    · rcases List.mem_append.mp hu with q | q
      · exact h4 u q
      · rw [List.mem_singleton.mp q]; exact hwt
    · have : nextT (A ++ [t]) = nextT A ++ [97, 98, 99, 100].map fun c => t ++ [c] := by simp [nextT]
      rw [this]; exact g3
  rintro c cs ρ S2 ⟨ds, z8, z9, g1, rfl, a1, a2, a3, L, kvs2, a4, a5, a6⟩
  have hc : okc c := by
    have : c ∈ [97, 98, 99, 100] := by rw [g1]; simp
    simpa [okc] using this
  refine w_seq (w_asg (w_meth (w_var rfl ⟨r, _, rfl, a1.inst, rfl, w_all1 (w_var rfl (w_all1 (w_var rfl (w_all0 ?_))))⟩)))
  refine step_ok K a1 hto hc fun S3 b1 b2 => w_gn (nx_next ?_)
  have a4' : S3[n0]? = some (.dict kvs2) := by rw [b2.at_ _ (by omega) (by omega)]; exact a4
  have a5' : S3[S.length]? = some (.lst (L.map (itemF sim))) := by rw [b2.at_ _ (by omega) (by omega)]; exact a5
  have a3' : lvAt S3 lvd (T.map (itemF sim)) := by
    rcases a3 with z | ⟨l, z, hz⟩
    · exact .inl z
    · have := hll2 l z
      exact .inr ⟨l, z, by rw [b2.at_ _ (by omega) (by omega)]; exact hz⟩
  have hg : okt (t ++ [c]) ∧ (t ++ [c]).length = k + 1 := ⟨okt_snoc.mpr ⟨hto, hc⟩, by simp [htl]⟩
  have hlt : ∀ x ∈ nextT A ++ ds.map (fun c => t ++ [c]), ltCs x (t ++ [c]) = true := fun x hx => by
    rcases List.mem_append.mp hx with q | q
    · obtain ⟨u, hu, c', _, rfl⟩ := mem_nextT.mp q
      have hs := hL.sorted
      rw [h1] at hs
      have := (List.pairwise_append.mp hs).2.2 u hu t (by simp)
      exact ltCs_app (by rw [(hL.ok u (by rw [h1]; exact List.mem_append_left _ hu)).2, htl]) this
    · obtain ⟨c', hc', rfl⟩ := List.mem_map.mp q
      refine ltCs_one ?_
      have hp : ([97, 98, 99, 100] : List Nat).Pairwise (· < ·) := by decide
      rw [g1] at hp
      exact (List.pairwise_append.mp hp).2.2 c' hc' c (by simp)
  refine w_if (w_tv (w_bin (w_var rfl (w_var rfl (wp_eq (gKNotIn_ok a4' encS_ok) ⟨_, rfl, fun hb => ?_, fun hb => ?_⟩)))))
  · have hnone : getKD kvs2 (encS (sts sim (t ++ [c]))) = none := by simpa using hb
    have hnew := a6.new hg hlt (getKD_none encS_ok hnone)
    have hlen2 : kvs2.length ≤ 85 * 4 ^ sim.length := met_len (k := 0) K a6.nd fun x hx => by
      rcases a6.of x hx with ⟨u, p1, _, p2⟩ | ⟨u, p1, p2⟩
      · exact ⟨u, p1, p2⟩
      · exact ⟨u, (a6.gok u (a6.sub u p1)).1, p2⟩
    have hLl : L.length ≤ kvs2.length := by
      have := a6.len
      rw [List.length_map] at this
      omega
    refine w_seq (w_asg (w_c (w_gsk (w_var rfl (w_var rfl (wp_eq (setKAt_ok a4' encS_ok (by simp only [lim]; omega)) (nx_next ?_)))))))
    rw [setKD_new hnone]
    have s5 : (S3.set n0 (.dict (kvs2 ++ [(encS (sts sim (t ++ [c])), .bl true)])))[S.length]? = some (.lst (L.map (itemF sim))) := by rw [List.getElem?_set_ne (by omega)]; exact a5'
    refine w_expr (w_app (w_var rfl ⟨S.length, _, rfl, s5, w_tup (w_all1 (w_var rfl (w_all1 (w_bin (w_var rfl (w_var rfl (wp_eq (gAdd_str (by simp [lim]; omega)) (w_all0 ⟨_, s5, by simp [lim]; omega, ?_⟩))))))))⟩))
    refine ⟨_, rfl, ds ++ [c], _, _, by rw [g1]; simp, rfl, (b1.set hr).set (by omega), ((a2.rfr b2 hr).set (Nat.le_refl _) rfl).set (by omega) rfl, ?_, L ++ [t ++ [c]], kvs2 ++ [(encS (sts sim (t ++ [c])), .bl true)], ?_, ?_, ?_⟩
    · rcases a3' with z | ⟨l, z, hz⟩
      · exact .inl z
      · have := hll2 l z
        exact .inr ⟨l, z, by rw [List.getElem?_set_ne (by omega), List.getElem?_set_ne (by omega)]; exact hz⟩
    · rw [List.getElem?_set_ne (by omega), List.getElem?_set_self (lt_of_get a4')]
    · rw [List.getElem?_set_self (by rw [List.length_set]; exact lt_of_get a5'), List.map_append]
      rfl
    · have e1 : (nextT A ++ (ds ++ [c]).map fun c => t ++ [c]) = (nextT A ++ ds.map fun c => t ++ [c]) ++ [t ++ [c]] := by simp
      rw [e1, List.map_append]
      exact hnew
  · have hsome : (getKD kvs2 (encS (sts sim (t ++ [c])))).isSome = true := by simpa using hb
    obtain ⟨dd, hdd⟩ := Option.isSome_iff_exists.mp hsome
    have hmem : encS (sts sim (t ++ [c])) ∈ kvs2.map (·.1) := List.mem_map_of_mem (f := (·.1)) (getKD_mem hdd)
    have hold := a6.old hg hlt hmem
    refine w_nil ⟨_, rfl, ds ++ [c], _, _, by rw [g1]; simp, rfl, b1, a2.rfr b2 hr, a3', L, kvs2, a4', a5', ?_⟩
    have e1 : (nextT A ++ (ds ++ [c]).map fun c => t ++ [c]) = (nextT A ++ ds.map fun c => t ++ [c]) ++ [t ++ [c]] := by simp
    rw [e1]
    exact hold
end
end WF


set_option linter.all false
set_option maxRecDepth 100000
set_option maxHeartbeats 4000000
/-! # MF: depth, closeness, does_find, finds, in plain Lean -/
namespace WF
section
variable {S : Store}
section
theorem check_q {q : Q} (hw : q.wf) (hd : q.depth ≤ 3) : P_check_question [q.enc] S = .ok .non S := by
  have h : P_is_question [q.enc] S = .ok (.bl true) S := by
    refine wp_to ?_
    unfold P_is_question
    refine w_run ?_
    walk_at "wf all"
    refine wp_eq (is_at_most_ok (n := fuel) (d := 3) hw hd (fuel_le (by omega))) ?_
    exact ⟨rfl, rfl⟩
  refine wp_to ?_
  unfold P_check_question
  refine w_run ?_
  walk_at "wf all"
  refine wp_eq h ?_
  walk_at "wf go"
  exact ⟨rfl, rfl⟩
end
section
end
theorem gEq_str {a b : Cs} : gEq (.str a) (.str b) S = .ok (.bl (a == b)) S := by simp [gEq, res, D.plain, D.depth, D.eqv]
section
end
end
end WF


set_option linter.all false
set_option maxRecDepth 100000
set_option maxHeartbeats 4000000
/-! # MFw: first_with and what leans on it -/
namespace WF
/-- only new objects, none with captured names -/
def App (S S' : Store) : Prop := ∃ X, S' = S ++ X ∧ noCap X = true
theorem App.refl {S : Store} : App S S := ⟨[], by simp, rfl⟩
theorem App.trans {S S1 S2 : Store} (a : App S S1) (b : App S1 S2) : App S S2 := by
  obtain ⟨X, rfl, hX⟩ := a
  obtain ⟨Z, rfl, hZ⟩ := b
  refine ⟨X ++ Z, by simp, ?_⟩
  unfold noCap at hX hZ ⊢
  rw [List.all_append, hX, hZ]
  rfl
theorem App.one {S : Store} {mo : MO} (h : mo.cap = false) : App S (S ++ [mo]) := ⟨[mo], rfl, by simp [noCap, h]⟩
theorem App.noCap {S S' : Store} (a : App S S') (h : noCap S = true) : noCap S' = true := by
  obtain ⟨X, rfl, hX⟩ := a
  unfold WF.noCap at h hX ⊢
  rw [List.all_append, h, hX]
  rfl
theorem noCap_of {S : Store} (h : ∀ (i : Nat) (mo : MO), S[i]? = some mo → mo.cap = false) : noCap S = true := by
  unfold noCap
  rw [List.all_eq_true]
  intro mo hm
  obtain ⟨i, hi⟩ := List.mem_iff_getElem?.mp hm
  rw [h i mo hi]
  rfl
theorem noCap_at {S : Store} (h : noCap S = true) {i : Nat} {mo : MO} (e : S[i]? = some mo) : mo.cap = false := by
  unfold noCap at h
  rw [List.all_eq_true] at h
  simpa using h mo (List.mem_of_getElem? e)
theorem app_of {S S' : Store} (h1 : ∀ i, i < S.length → S'[i]? = S[i]?) (h2 : S.length ≤ S'.length) (h3 : ∀ (i : Nat) (mo : MO), S.length ≤ i → S'[i]? = some mo → mo.cap = false) : App S S' := by
  refine ⟨S'.drop S.length, ?_, noCap_of fun i mo e => ?_⟩
  · apply List.ext_getElem?
    intro i
    by_cases q : i < S.length
    · rw [List.getElem?_append_left q, h1 i q]
    · rw [List.getElem?_append_right (by omega), List.getElem?_drop]
      congr 1
      omega
  · rw [List.getElem?_drop] at e
    exact h3 _ _ (by omega) e
section
variable {P : D → Store → Prop} {PB : Bool → Store → Prop} {E : Nat → Store → Prop} {ρ : Env} {S : Store} {a : FE}
theorem w_lam {k : Nat} (h : P (.loc S.length) (S ++ [.fn k []])) : Wp (dLam k ρ S) P E := h
theorem w_callV {k : Nat} {F : FF} {as : List FE} (h : Wp (a ρ S) (fun x S1 => ∃ n, x = .loc n ∧ S1[n]? = some (.fn k []) ∧ Wp (evalAll as ρ S1) (fun ds S2 => S2[n]? = some (.fn k []) ∧ Wp (F ds S2) P fun _ _ => False) E) E) : Wp (dCallV k F a as ρ S) P E :=
  wp_bind (h.imp fun x S1 ⟨n, e, h1, h2⟩ => by
    subst e
    have e1 : fnOf S1 (.loc n) = some (k, []) := by simp only [fnOf, h1]
    simp only [e1, if_true]
    refine wp_bind (h2.imp fun ds S2 ⟨h3, h4⟩ => ?_)
    have e2 : fnOf S2 (.loc n) = some (k, []) := by simp only [fnOf, h3]
    simp only [e2, if_true]
    exact wp_noex h4)
theorem w_callW {k : Nat} {F : FF} {as : List FE} (h : Wp (a ρ S) (fun x S1 => ∃ n d0, x = .loc n ∧ S1[n]? = some (.fn k [d0]) ∧ Wp (evalAll as ρ S1) (fun ds S2 => ∃ d, S2[n]? = some (.fn k [d]) ∧ noCap (S2.set n .dead) = true ∧ Wp (F (ds ++ [d]) (S2.set n .dead)) (fun r S3 => n < S3.length ∧ P r (S3.set n (.fn k [d]))) fun _ _ => False) E) E) : Wp (dCallW k F a as ρ S) P E :=
  wp_bind (h.imp fun x S1 ⟨n, d0, e, h1, h2⟩ => by
    subst e
    have e1 : fnOf S1 (.loc n) = some (k, [d0]) := by simp only [fnOf, h1]
    simp only [e1, if_true]
    refine wp_bind (h2.imp fun ds S2 ⟨d, h3, h4, h5⟩ => ?_)
    have e2 : fnOf S2 (.loc n) = some (k, [d]) := by simp only [fnOf, h3]
    simp only [e2]
    rw [if_pos ⟨trivial, h4⟩]
    refine wp_bind (wp_noex (h5.imp fun r S3 ⟨h6, h7⟩ => ?_))
    rw [if_neg (by rw [List.getElem?_eq_getElem h6]; simp)]
    exact h7)
theorem w_methW {c m : Cs} {F : FF} {o : FE} {k i : Nat} (h : Wp (o ρ S) (fun x S1 => ∃ n fs d, x = .loc n ∧ S1[n]? = some (.inst c fs) ∧ fs.lookup m = none ∧ ρ[i]? = some (some d) ∧ Wp (F [.loc n, .loc S1.length] (S1 ++ [.fn k [d]])) (fun r S3 => noCap (S3.set S1.length .dead) = true ∧ P r (S3.set S1.length .dead)) fun _ _ => False) E) : Wp (dMethW c m F o k i ρ S) P E :=
  wp_bind (h.imp fun x S1 ⟨n, fs, d, e, h1, h2, h3, h4⟩ => by
    subst e
    simp only [h1]
    rw [if_pos ⟨trivial, h2⟩]
    have e2 : dVar i ρ S1 = .ok d S1 := by unfold dVar; rw [h3]
    rw [e2, Res.ok_bind]
    refine wp_bind (wp_noex (h4.imp fun r S3 ⟨h6, h7⟩ => ?_))
    rw [if_pos h6]
    exact h7)
theorem w_runLam {n : Nat} {a : FE} {ds : List D} (h : Wp (a (startE n ds) S) P E) : Wp (runLam n a ds S) P E := h
end
section
variable {qs : List Q} {S : Store} {kl fl : Nat} {Fl : FF} {g : List Bool → Bool} {P : D → Store → Prop} {E : Nat → Store → Prop}
/-- the answers -/
def ans (qs : List Q) (t : Cs) : List Bool := qs.map fun q => q.ev t
theorem first_with_ok (hw : ∀ q ∈ qs, q.wf) (hd : ∀ q ∈ qs, q.depth ≤ 3) (hl : lvsAll qs ≤ 7) (hq : qs.length ≤ 100) (hS : noCap S = true) (hf : S[fl]? = some (.fn kl [])) (hF : ∀ bs S, bs.length = qs.length → Fl [.tup (bs.map D.bl)] S = .ok (.bl (g bs)) S)
    (qn : ∀ S', App S S' → (∀ t, okt t → g (ans qs t) = false) → P .non S')
    (qs_ : ∀ t S', App S S' → okt t → g (ans qs t) = true → (∀ u, okt u → ahead u t → g (ans qs u) = false) → t.length ≤ 2000000 → P (.str t) S') : Wp (P_first_with kl Fl [.lst (qs.map Q.enc), .loc fl] S) P E := by
  have K := rk_of hw hd hl hq
  have hfl := lt_of_get hf
  unfold P_first_with
  refine w_run (w_ret (w_methW ?_))
  refine w_make (w_all1 (w_var rfl (w_all0 (wp_eq (init_ok hd hl) ⟨rfl, S.length, _, .loc fl, rfl, newRdr_ok.inst, rfl, rfl, ?_⟩))))
  have l1 : (newRdr qs S).length = S.length + 4 := by simp [newRdr]
  generalize hS0 : newRdr qs S ++ [MO.fn 0 [.loc fl]] = S0
  have l0 : S0.length = S.length + 5 := by rw [← hS0, List.length_append, l1]; rfl
  have hR0 : Rdr S.length qs (addAll [] qs) S0 := by rw [← hS0]; exact newRdr_ok.add
  have at0 : ∀ i, i < S.length → S0[i]? = S[i]? := fun i hi => by
    rw [← hS0, List.getElem?_append_left (by omega)]
    unfold newRdr
    rw [List.getElem?_append_left hi]
  have atf : S0[S.length + 4]? = some (.fn 0 [.loc fl]) := by
    rw [← hS0, ← l1]
    simp
  rw [l1]
  -- what is not captured
  have caps : ∀ S', Rdr S.length qs (addAll [] qs) S' → Frm S.length (S.length + 5) S0 S' → ∀ i mo, i ≠ S.length + 4 → S'[i]? = some mo → mo.cap = false := fun S' hR hFr i mo hi e => by
    by_cases q : i < S.length
    · rw [hFr.at_ i (by omega) (by omega) (by omega), at0 i q] at e
      exact noCap_at hS e
    · by_cases q2 : S.length + 5 ≤ i
      · exact hFr.cap i mo q2 e
      · have : i = S.length ∨ i = S.length + 1 ∨ i = S.length + 2 ∨ i = S.length + 3 := by omega
        rcases this with q3 | q3 | q3 | q3 <;> subst q3
        · rw [hR.inst] at e; cases e; rfl
        · rw [hR.simL] at e; cases e; rfl
        · obtain ⟨kvs, h1, _⟩ := hR.kn
          rw [h1] at e; cases e; rfl
        · obtain ⟨kvs, h1, _⟩ := hR.tl
          rw [h1] at e; cases e; rfl
  have noc : ∀ S', Rdr S.length qs (addAll [] qs) S' → Frm S.length (S.length + 5) S0 S' → noCap (S'.set (S.length + 4) .dead) = true := fun S' hR hFr => noCap_of fun i mo e => by
    by_cases q : S.length + 4 = i
    · subst q
      have hlt := lt_of_get e
      rw [List.length_set] at hlt
      rw [List.getElem?_set_self hlt] at e
      cases e; rfl
    · rw [List.getElem?_set_ne q] at e
      exact caps S' hR hFr i mo (fun z => q z.symm) e
  have app : ∀ S', Rdr S.length qs (addAll [] qs) S' → Frm S.length (S.length + 5) S0 S' → App S (S'.set (S.length + 4) .dead) := fun S' hR hFr => by
    refine app_of (fun i hi => ?_) ?_ fun i mo hi e => noCap_at (noc S' hR hFr) e
    · rw [List.getElem?_set_ne (by omega), hFr.at_ i (by omega) (by omega) (by omega), at0 i hi]
    · rw [List.length_set]; have := hFr.le; omega
  unfold P_Reader_first_W
  refine first_ok (w := fun t => g (ans qs t)) (fv := .loc (S.length + 4)) (tt := tVal (dCallW 0 (M_0 kl Fl) (dVar 1) [(dVar 0), (dVar 6)])) (n0 := S.length + 5) K (by omega) l0.symm hR0 ?_ ?_ ?_ ?_
  · intro t u h1 h2 h3
    have : ans qs t = ans qs u := List.map_congr_left fun q hq => ev_sts K.sims h1 h2 h3 (K.sub q hq)
    show g (ans qs t) = g (ans qs u)
    rw [this]
  · intro ρ S' t h0 h1 h6 ht htl hR hFr
    have hcl : S'[S.length + 4]? = some (.fn 0 [.loc fl]) := by rw [hFr.at_ _ (by omega) (by omega) (by omega)]; exact atf
    have llt := lt_of_get hcl
    refine w_tv (w_callW (w_var h1 ⟨S.length + 4, .loc fl, rfl, hcl, w_all1 (w_var h0 (w_all1 (w_var h6 (w_all0 ⟨.loc fl, hcl, noc S' hR hFr, ?_⟩))))⟩))
    unfold M_0
    have hff : (S'.set (S.length + 4) .dead)[fl]? = some (.fn kl []) := by
      rw [List.getElem?_set_ne (by omega), hFr.at_ fl (by omega) (by omega) (by omega), at0 fl hfl]
      exact hf
    have hRd := hR.set (i := S.length + 4) (mo := .dead) (by omega)
    refine w_runLam (w_callV (w_var rfl ⟨fl, rfl, hff, w_all1 (w_meth (w_var rfl ⟨S.length, _, rfl, hRd.inst, rfl, w_all1 (w_var rfl (w_all0 ?_))⟩))⟩))
    refine answers_ok K hRd ht fun S2 hR2 hF2 => w_all0 ⟨by rw [hF2.at_ fl (by omega) (by omega)]; exact hff, ?_⟩
    have e1 : (qs.map fun q => D.bl (q.ev t)) = (ans qs t).map D.bl := by simp [ans]
    rw [e1]
    refine wp_eq (hF (ans qs t) S2 (by simp [ans])) ?_
    have l2 : S2.length = S'.length := by rw [hF2.len, List.length_set]
    refine ⟨by omega, g (ans qs t), rfl, rfl, hR2.set (by omega), by rw [List.length_set, l2], fun i hi1 hi2 => ?_⟩
    by_cases q : S.length + 4 = i
    · subst q
      rw [List.getElem?_set_self (by omega), hcl]
    · rw [List.getElem?_set_ne q, hF2.at_ i hi1 hi2, List.getElem?_set_ne q]
  · intro S' hR hFr hno
    exact ⟨noc S' hR hFr, qn _ (app S' hR hFr) hno⟩
  · intro t S' hR hFr ht hwt hah htl
    exact ⟨noc S' hR hFr, qs_ t _ (app S' hR hFr) ht hwt hah htl⟩
theorem m2_ok {bs : List Bool} {S : Store} (h : bs.length = 2) : M_2 [.tup (bs.map D.bl)] S = .ok (.bl (bs.getD 0 false && !bs.getD 1 false)) S := by
  obtain ⟨a, b, rfl⟩ : ∃ a b, bs = [a, b] := by
    match bs, h with
    | [a, b], _ => exact ⟨a, b, rfl⟩
  unfold M_2
  cases a <;> cases b <;> rfl
theorem m3_ok {bs : List Bool} {S : Store} (h : bs.length = 1) : M_3 [.tup (bs.map D.bl)] S = .ok (.bl (bs.getD 0 false)) S := by
  obtain ⟨a, rfl⟩ : ∃ a, bs = [a] := by
    match bs, h with
    | [a], _ => exact ⟨a, rfl⟩
  unfold M_3
  cases a <;> rfl
end
section
variable {S : Store} {P : D → Store → Prop} {E : Nat → Store → Prop} {p q : Q}
/-- a question within its limits -/
structure Qok (q : Q) : Prop where
  wf : q.wf
  dep : q.depth ≤ 3
theorem is_within_ok (hp : Qok p) (hq : Qok q) (hl : lvs p + lvs q ≤ 7) (hS : noCap S = true)
    (k : ∀ b S', App S S' → (b = true ↔ ∀ t, okt t → p.ev t = true → q.ev t = true) → P (.bl b) S') : Wp (P_is_within [p.enc, q.enc] S) P E := by
  unfold P_is_within
  refine w_run (w_seq (w_expr (w_call (w_all1 (w_var rfl (w_all0 (wp_eq (check_q hp.wf hp.dep) (nx_next ?_))))))))
  refine w_seq (w_expr (w_call (w_all1 (w_var rfl (w_all0 (wp_eq (check_q hq.wf hq.dep) (nx_next ?_)))))))
  refine w_ret (w_un (w_call (w_all1 (w_lst (w_all1 (w_var rfl (w_all1 (w_var rfl (w_all0 (w_all1 (w_lam (w_all0 ?_))))))))))))
  have a0 : App S (S ++ [.fn 2 []]) := App.one rfl
  refine first_with_ok (qs := [p, q]) (g := fun bs => bs.getD 0 false && !bs.getD 1 false) (fun x hx => ?_) (fun x hx => ?_) (by simp [lvsAll]; omega) (by simp) (a0.noCap hS) (by simp) (fun bs S h => m2_ok h) (fun S' ha h => wp_eq rfl (k true S' (a0.trans ha) ⟨fun _ t ht he => ?_, fun _ => rfl⟩)) fun t S' ha ht h1 h2 h3 => wp_eq rfl (k false S' (a0.trans ha) ⟨fun z => (nomatch z), fun z => ?_⟩)
  · simp at hx; rcases hx with rfl | rfl; exact hp.wf; exact hq.wf
  · simp at hx; rcases hx with rfl | rfl; exact hp.dep; exact hq.dep
  · have := h t ht
    simp [ans, he] at this
    exact this
  · simp [ans] at h1
    rw [z t ht h1.1] at h1
    simp at h1
theorem first_found_ok (hq : Qok q) (hS : noCap S = true)
    (qn : ∀ S', App S S' → (∀ t, okt t → q.ev t = false) → P .non S')
    (qs_ : ∀ t S', App S S' → okt t → q.ev t = true → (∀ u, okt u → ahead u t → q.ev u = false) → t.length ≤ 2000000 → P (.str t) S') : Wp (P_first_found [q.enc] S) P E := by
  have hl := lvs3 hq.dep
  unfold P_first_found
  refine w_run (w_seq (w_expr (w_call (w_all1 (w_var rfl (w_all0 (wp_eq (check_q hq.wf hq.dep) (nx_next ?_))))))))
  refine w_ret (w_call (w_all1 (w_lst (w_all1 (w_var rfl (w_all0 (w_all1 (w_lam (w_all0 ?_)))))))))
  have a0 : App S (S ++ [.fn 3 []]) := App.one rfl
  refine first_with_ok (qs := [q]) (g := fun bs => bs.getD 0 false) (fun x hx => ?_) (fun x hx => ?_) (by simp [lvsAll]; omega) (by simp) (a0.noCap hS) (by simp) (fun bs S h => m3_ok h) (fun S' ha h => qn S' (a0.trans ha) fun t ht => ?_) fun t S' ha ht h1 h2 h3 => qs_ t S' (a0.trans ha) ht ?_ (fun u hu hah => ?_) h3
  · simp at hx; subst hx; exact hq.wf
  · simp at hx; subst hx; exact hq.dep
  · have := h t ht; simpa [ans] using this
  · simpa [ans] using h1
  · have := h2 u hu hah; simpa [ans] using this
end
end WF


set_option linter.all false
set_option maxRecDepth 100000
/-! # MComp: comprehensions whose parts change the store -/
namespace WF
section
variable {ρ : Env} {t : FT} {e : FE} {g : FG} {vs : List Nat} {P : D → Store → Prop} {E : Nat → Store → Prop}
/-- one turn -/
def Turn (g : FG) (vs : List Nat) (t : FT) (e : FE) (ρ : Env) (I : Store → Prop) (k : D → Bool) (f : D → D) (d : D) : Prop := ∀ S, I S →
  Wp (g d (wipe ρ vs) S) (fun ρ1 S1 => Wp (t ρ1 S1) (fun c S2 => c = k d ∧ (k d = true → Wp (e ρ1 S2) (fun y S3 => y = f d ∧ I S3) fun _ _ => False) ∧ (k d = false → I S2)) fun _ _ => False) fun _ _ => False
theorem w_compLI (I : Store → Prop) (k : D → Bool) (f : D → D) : ∀ {ds : List D} {S : Store}, (∀ d ∈ ds, Turn g vs t e ρ I k f d) → I S →
    Wp (compL g vs t e ρ ds S) (fun ys S1 => ys = (ds.filter k).map f ∧ I S1) E
  | [], S, _, h => ⟨rfl, h⟩
  | d :: ds, S, hs, h => by
    unfold compL
    have ih := fun {S : Store} (hS : I S) => w_compLI I k f (ds := ds) (S := S) (fun d hd => hs d (List.mem_cons_of_mem _ hd)) hS
    refine wp_bind (wp_noex ((hs d (List.mem_cons_self ..) S h).imp fun ρ1 S1 h1 => wp_bind (wp_noex (h1.imp fun c S2 h2 => ?_))))
    obtain ⟨rfl, h3, h4⟩ := h2
    cases hk : k d with
    | true =>
      rw [if_pos rfl]
      refine wp_bind (wp_noex ((h3 hk).imp fun y S3 h5 => ?_))
      obtain ⟨rfl, h6⟩ := h5
      refine wp_bind ((ih h6).imp fun ys S4 h7 => ?_)
      refine ⟨?_, h7.2⟩
      rw [List.filter_cons_of_pos hk, List.map_cons, h7.1]
    | false =>
      rw [if_neg (by simp)]
      refine (ih (h4 hk)).imp fun ys S4 h7 => ⟨?_, h7.2⟩
      rw [List.filter_cons_of_neg (by simp [hk])]
      exact h7.1
theorem w_compNI (I : Store → Prop) (k : D → Bool) (f : D → D) {n : Live} {all : List D} (hn : ∀ S, I S → n S = some all) (hs : ∀ d ∈ all, Turn g vs t e ρ I k f d) : ∀ {j : Nat} {S : Store}, j ≤ all.length → I S →
    Wp (compN g vs t e ρ n all.length j S) (fun ys S1 => ys = ((all.drop (all.length - j)).filter k).map f ∧ I S1) E
  | 0, S, _, h => by
    unfold compN
    simp only [hn S h, if_true]
    exact ⟨by simp, h⟩
  | j + 1, S, hj, h => by
    have hlt : all.length - (j + 1) < all.length := by omega
    have hdr : all.drop (all.length - (j + 1)) = all[all.length - (j + 1)] :: all.drop (all.length - j) := by
      rw [List.drop_eq_getElem_cons hlt]
      congr 2
      omega
    unfold compN
    simp only [hn S h, if_true, List.getElem?_eq_getElem hlt]
    rw [hdr]
    generalize hd : all[all.length - (j + 1)] = d
    have hm : d ∈ all := by rw [← hd]; exact List.getElem_mem hlt
    have ih := fun {S : Store} (hS : I S) => w_compNI I k f hn hs (j := j) (S := S) (by omega) hS
    refine wp_bind (wp_noex ((hs d hm S h).imp fun ρ1 S1 h1 => wp_bind (wp_noex (h1.imp fun c S2 h2 => ?_))))
    obtain ⟨rfl, h3, h4⟩ := h2
    cases hk : k d with
    | true =>
      rw [if_pos rfl]
      refine wp_bind (wp_noex ((h3 hk).imp fun y S3 h5 => ?_))
      obtain ⟨rfl, h6⟩ := h5
      refine wp_bind ((ih h6).imp fun ys S4 h7 => ?_)
      refine ⟨?_, h7.2⟩
      rw [List.filter_cons_of_pos hk, List.map_cons, h7.1]
    | false =>
      rw [if_neg (by simp)]
      refine (ih (h4 hk)).imp fun ys S4 h7 => ⟨?_, h7.2⟩
      rw [List.filter_cons_of_neg (by simp [hk])]
      exact h7.1
/-- over a list of which nobody else knows -/
theorem w_compI {it : FI} {S : Store} {ds : List D} (I : Store → Prop) (k : D → Bool) (f : D → D) (hi : it ρ S = .ok (ds, none) S) (hl : ds.length ≤ lim) (hs : ∀ d ∈ ds, Turn g vs t e ρ I k f d) (h0 : I S)
    (q : ∀ S', I S' → P (.lst ((ds.filter k).map f)) S') : Wp (dComp it g vs t e ρ S) P E := by
  unfold dComp
  rw [hi, Res.ok_bind]
  dsimp only
  rw [if_pos hl]
  exact wp_bind ((w_compLI I k f hs h0).imp fun ys S1 h => by rw [h.1]; exact q S1 h.2)
/-- over a list of the store -/
theorem w_compIN {it : FI} {S : Store} {n : Live} {ds : List D} (I : Store → Prop) (k : D → Bool) (f : D → D) (hi : it ρ S = .ok (ds, some n) S) (hn : ∀ S, I S → n S = some ds) (hl : ds.length ≤ lim) (hs : ∀ d ∈ ds, Turn g vs t e ρ I k f d) (h0 : I S)
    (q : ∀ S', I S' → P (.lst ((ds.filter k).map f)) S') : Wp (dComp it g vs t e ρ S) P E := by
  unfold dComp
  rw [hi, Res.ok_bind]
  dsimp only
  rw [if_pos hl]
  refine wp_bind ((w_compNI I k f hn hs (Nat.le_refl _) h0).imp fun ys S1 h => ?_)
  rw [h.1]
  have := q S1 h.2
  show P _ S1
  simpa using this
end
end WF


set_option linter.all false
set_option maxRecDepth 100000
set_option maxHeartbeats 4000000
/-! # MTexts: all texts of a length, the law's own list of them -/
namespace WF
def lvT : Nat → List Cs
  | 0 => [[]]
  | n + 1 => nextT (lvT n)
def allT : Nat → List Cs
  | 0 => [[]]
  | n + 1 => allT n ++ lvT (n + 1)
theorem mem_lvT : ∀ {n : Nat} {t : Cs}, t ∈ lvT n ↔ okt t ∧ t.length = n
  | 0, t => by
    simp only [lvT, List.mem_singleton, List.length_eq_zero_iff]
    exact ⟨fun h => by subst h; exact ⟨okt_nil, rfl⟩, fun h => h.2⟩
  | n + 1, t => by
    simp only [lvT, mem_nextT]
    constructor
    · rintro ⟨u, hu, c, hc, rfl⟩
      have := mem_lvT.mp hu
      exact ⟨okt_snoc.mpr ⟨this.1, hc⟩, by simp [this.2]⟩
    · rintro ⟨h1, h2⟩
      rcases List.eq_nil_or_concat t with e | ⟨u, c, e⟩
      · rw [e] at h2; simp at h2
      · rw [List.concat_eq_append] at e
        subst e
        obtain ⟨h3, h4⟩ := okt_snoc.mp h1
        exact ⟨u, mem_lvT.mpr ⟨h3, by simpa using h2⟩, c, h4, rfl⟩
theorem mem_allT : ∀ {n : Nat} {t : Cs}, t ∈ allT n ↔ okt t ∧ t.length ≤ n
  | 0, t => by
    simp only [allT, List.mem_singleton, Nat.le_zero, List.length_eq_zero_iff]
    exact ⟨fun h => by subst h; exact ⟨okt_nil, rfl⟩, fun h => h.2⟩
  | n + 1, t => by
    simp only [allT, List.mem_append, mem_allT, mem_lvT]
    constructor
    · rintro (⟨h1, h2⟩ | ⟨h1, h2⟩)
      · exact ⟨h1, by omega⟩
      · exact ⟨h1, by omega⟩
    · rintro ⟨h1, h2⟩
      by_cases e : t.length ≤ n
      · exact .inl ⟨h1, e⟩
      · exact .inr ⟨h1, by omega⟩
theorem nextT_cons {t : Cs} {T : List Cs} : nextT (t :: T) = [t ++ [97], t ++ [98], t ++ [99], t ++ [100]] ++ nextT T := rfl
theorem nextT_app {T U : List Cs} : nextT (T ++ U) = nextT T ++ nextT U := by simp [nextT]
theorem nextT_len : ∀ T : List Cs, (nextT T).length = 4 * T.length
  | [] => rfl
  | t :: T => by
    rw [nextT_cons, List.length_append, nextT_len T]
    simp
    omega
theorem sorted_next {k : Nat} : ∀ {T : List Cs}, (∀ t ∈ T, t.length = k) → T.Pairwise (fun a b => ltCs a b = true) → (nextT T).Pairwise fun a b => ltCs a b = true
  | [], _, _ => .nil
  | t :: T, hl, h => by
    obtain ⟨h1, h2⟩ := List.pairwise_cons.mp h
    rw [nextT_cons, List.pairwise_append]
    refine ⟨?_, sorted_next (fun t ht => hl t (List.mem_cons_of_mem _ ht)) h2, fun a ha b hb => ?_⟩
    · have o : ∀ {c d : Nat}, c < d → ltCs (t ++ [c]) (t ++ [d]) = true := ltCs_one
      simp [o]
    · obtain ⟨u, hu, c, _, rfl⟩ := mem_nextT.mp hb
      have e : t.length = u.length := by rw [hl t (by simp), hl u (List.mem_cons_of_mem _ hu)]
      have hlt := h1 u hu
      simp only [List.mem_cons, List.not_mem_nil, or_false] at ha
      rcases ha with rfl | rfl | rfl | rfl <;> exact ltCs_app e hlt
theorem sorted_lvT : ∀ n, (lvT n).Pairwise fun a b => ltCs a b = true
  | 0 => by simp [lvT]
  | n + 1 => sorted_next (k := n) (fun t ht => (mem_lvT.mp ht).2) (sorted_lvT n)
theorem sorted_allT : ∀ n, (allT n).Pairwise ahead
  | 0 => by simp [allT]
  | n + 1 => by
    rw [allT, List.pairwise_append]
    refine ⟨sorted_allT n, (sorted_lvT (n + 1)).imp_of_mem fun ha hb h => .inr ⟨by rw [(mem_lvT.mp ha).2, (mem_lvT.mp hb).2], h⟩, fun a ha b hb => .inl ?_⟩
    have := (mem_allT.mp ha).2
    have := (mem_lvT.mp hb).2
    omega
theorem lvT_len : ∀ n, (lvT n).length = 4 ^ n
  | 0 => rfl
  | n + 1 => by rw [lvT, nextT_len, lvT_len n, Nat.pow_succ]; omega
theorem allT_len : ∀ n, (allT n).length ≤ 2 * 4 ^ n
  | 0 => by simp [allT]
  | n + 1 => by
    have := allT_len n
    rw [allT, List.length_append, lvT_len, Nat.pow_succ]
    omega
theorem ltCs_total : ∀ {a b : Cs}, a.length = b.length → ltCs a b = true ∨ a = b ∨ ltCs b a = true
  | [], [], _ => .inr (.inl rfl)
  | [], _ :: _, h => by simp at h
  | _ :: _, [], h => by simp at h
  | x :: a, y :: b, h => by
    unfold ltCs
    rcases Nat.lt_trichotomy x y with z | z | z
    · exact .inl (if_pos z)
    · subst z
      simp only [Nat.lt_irrefl, if_false, if_true]
      rcases ltCs_total (a := a) (b := b) (by simpa using h) with q | q | q
      · exact .inl q
      · exact .inr (.inl (by rw [q]))
      · exact .inr (.inr q)
    · exact .inr (.inr (if_pos z))
theorem ahead_total (a b : Cs) : ahead a b ∨ a = b ∨ ahead b a := by
  rcases Nat.lt_trichotomy a.length b.length with z | z | z
  · exact .inl (.inl z)
  · rcases ltCs_total z with q | q | q
    · exact .inl (.inr ⟨z, q⟩)
    · exact .inr (.inl q)
    · exact .inr (.inr (.inr ⟨z.symm, q⟩))
  · exact .inr (.inr (.inl z))
theorem ahead_asymm {a b : Cs} (h : ahead a b) (k : ahead b a) : False := by
  rcases h with h | ⟨h, h2⟩
  · rcases k with k | ⟨k, _⟩ <;> omega
  · rcases k with k | ⟨_, k2⟩
    · omega
    · have := ltCs_trans h2 k2
      rw [ltCs_irrefl] at this
      cases this
theorem ahead_le {a b : Cs} (h : ahead a b) : a.length ≤ b.length := by
  rcases h with h | ⟨h, _⟩ <;> omega
/-- the first text of all, and the first one among the short ones -/
theorem first_short {n : Nat} {g : Cs → Bool} {x t : Cs} {xs : List Cs} (h : (allT n).filter g = x :: xs) (ht : okt t) (hg : g t = true) (hf : ∀ u, okt u → ahead u t → g u = false) : x = t := by
  have hx : x ∈ (allT n).filter g := by rw [h]; simp
  obtain ⟨h1, h2⟩ := List.mem_filter.mp hx
  have h3 := mem_allT.mp h1
  rcases ahead_total x t with z | z | z
  · rw [hf x h3.1 z] at h2; cases h2
  · exact z
  · have hm : t ∈ (allT n).filter g := List.mem_filter.mpr ⟨mem_allT.mpr ⟨ht, Nat.le_trans (ahead_le z) h3.2⟩, hg⟩
    rw [h] at hm
    have hs : (x :: xs).Pairwise ahead := by rw [← h]; exact (sorted_allT n).filter g
    rcases List.mem_cons.mp hm with q | q
    · exact q.symm
    · exact absurd z fun z => ahead_asymm z ((List.pairwise_cons.mp hs).1 t q)
theorem first_long {n : Nat} {g : Cs → Bool} {t : Cs} (h : (allT n).filter g = []) (ht : okt t) (hg : g t = true) : n < t.length := by
  apply Classical.byContradiction
  intro z
  have hm : t ∈ (allT n).filter g := List.mem_filter.mpr ⟨mem_allT.mpr ⟨ht, by omega⟩, hg⟩
  rw [h] at hm
  cases hm
section
variable {S : Store}
def addS1 (t : Cs) (d : D) : D := match d with
  | .str s => .str (t ++ s)
  | _ => .non
theorem texts_ok {n : Nat} (hn : n ≤ 6) : L_texts [.int n] S = .ok (.lst ((allT n).map D.str)) S := by
  refine wp_to ?_
  unfold L_texts
  refine w_run ?_
  simp only [startE, List.map_cons, List.map_nil, List.length_cons, List.length_nil, List.replicate, List.cons_append, List.nil_append, Nat.reduceAdd, Nat.reduceSub]
  refine w_seq (w_par ?_)
  walk_at "wf all"
  simp only [setAll, List.set_cons_succ, List.set_cons_zero]
  refine ⟨n, rfl, by omega, by omega, trivial, ?_⟩
  have e0 : rngD 0 (n : Int).toNat = rngD 0 n := by simp
  rw [e0]
  refine w_forL (fun ds ρ S1 => S1 = S ∧ ∃ k x1 x4 x5 x6, k + ds.length = n ∧ ρ = [some (.int n), x1, some (.lst ((allT k).map D.str)), some (.lst ((lvT k).map D.str)), x4, x5, x6]) ⟨rfl, 0, none, none, none, none, by simp [rngD], rfl⟩ ?_ ?_
  · rintro ρ S1 ⟨rfl, k, x1, x4, x5, x6, hk, rfl⟩
    have : k = n := by simpa using hk
    subst this
    exact nx_next (w_ret (w_var rfl ⟨rfl, rfl⟩))
  rintro d ds ρ S1 ⟨rfl, k, x1, x4, x5, x6, hk, rfl⟩
  rw [List.length_cons] at hk
  have hp : 4 ^ k ≤ 1024 := Nat.le_trans (Nat.pow_le_pow_right (by decide) (show k ≤ 5 by omega)) (by decide)
  refine w_gn ?_
  refine w_seq (w_asg (w_lst (w_all0 (w_gn (nx_next ?_)))))
  simp only [List.set_cons_succ, List.set_cons_zero]
  refine w_seq (w_for (w_iv ?_))
  refine w_var rfl ⟨_, .inl rfl, rfl, ?_⟩
  refine w_forL (fun es ρ S2 => S2 = S1 ∧ ∃ A B x5 x6, lvT k = A ++ B ∧ es = B.map D.str ∧ ρ = [some (.int n), some d, some (.lst ((allT k).map D.str)), some (.lst ((lvT k).map D.str)), some (.lst ((nextT A).map D.str)), x5, x6]) ⟨rfl, [], lvT k, x5, x6, rfl, rfl, rfl⟩ ?_ ?_
  · rintro ρ S2 ⟨rfl, A, B, x5, x6, h1, h2, rfl⟩
    have : B = [] := by simpa using h2.symm
    subst this
    rw [List.append_nil] at h1
    refine nx_next (w_seq (w_asg (w_var rfl (w_gn (nx_next ?_)))))
    refine w_asg (w_bin (w_var rfl (w_var rfl ?_)))
    have e : (nextT A).map D.str = (lvT (k + 1)).map D.str := by rw [lvT, h1]
    have hl1 := allT_len k
    have hl2 := lvT_len (k + 1)
    refine wp_eq (show gAdd (.lst ((allT k).map D.str)) (.lst ((nextT A).map D.str)) S2 = .ok (.lst ((allT (k + 1)).map D.str)) S2 from ?_) (w_gn ⟨rfl, k + 1, some d, some (.lst ((nextT A).map D.str)), x5, x6, by omega, ?_⟩)
    · unfold gAdd
      dsimp only
      rw [e, if_pos (by rw [List.length_map, List.length_map, hl2, Nat.pow_succ]; simp only [lim]; omega), allT, List.map_append]
    · rw [← e]; rfl
  · rintro d2 es ρ S2 ⟨rfl, A, B, x5, x6, h1, h2, rfl⟩
    cases B with
    | nil => cases h2
    | cons t B =>
      simp only [List.map_cons, List.cons.injEq] at h2
      obtain ⟨rfl, rfl⟩ := h2
      have htl : t.length = k := (mem_lvT.mp (by rw [h1]; simp)).2
      have hA : A.length ≤ 1024 := by
        have := lvT_len k
        rw [h1, List.length_append] at this
        omega
      refine w_gn (w_asg (w_bin (w_var rfl ?_)))
      refine wp_eq (comp_pure (ds := signs [97, 98, 99, 100]) (fun _ => true) (addS1 t) rfl (by simp [signs, lim]) ?_) ?_
      · intro d hd
        obtain ⟨c, rfl⟩ : ∃ c, d = .str [c] := by
          simp only [signs, List.map_cons, List.map_nil, List.mem_cons, List.not_mem_nil, or_false] at hd
          rcases hd with rfl | rfl | rfl | rfl <;> exact ⟨_, rfl⟩
        refine ⟨_, rfl, rfl, fun _ => ?_⟩
        exact dBin_v rfl rfl (gAdd_str (by simp [lim]; omega))
      · rw [filter_true]
        refine wp_eq (show gAdd (.lst ((nextT A).map D.str)) (.lst ((signs [97, 98, 99, 100]).map (addS1 t))) S2 = .ok (.lst ((nextT (A ++ [t])).map D.str)) S2 from ?_) (w_gn ⟨rfl, A ++ [t], B, some (.str t), x6, by rw [h1]; simp, rfl, rfl⟩)
        unfold gAdd
        dsimp only
        rw [if_pos (by rw [List.length_map, List.length_map, nextT_len]; simp [signs, lim]; omega), nextT_app, List.map_append]
        rfl
end
end WF


set_option linter.all false
set_option maxRecDepth 100000
/-! # MLaws: plain facts on what questions find -/
namespace WF
theorem sub_mid {s : Cs} (hs : s ≠ []) {t : Cs} : subIn s t = true ↔ ∃ a b, t = a ++ s ++ b := by
  rw [subIn_iffM hs]
  constructor
  · rintro ⟨k, h1, h2⟩
    refine ⟨t.take k, (t.drop k).drop s.length, ?_⟩
    rw [← h2]
    conv => lhs; rw [← List.take_append_drop k t, ← List.take_append_drop s.length (t.drop k)]
    rw [List.append_assoc, h2]
  · rintro ⟨a, b, rfl⟩
    have : 0 < s.length := by cases s with
      | nil => exact absurd rfl hs
      | cons _ _ => simp
    refine ⟨a.length, by simp; omega, ?_⟩
    rw [List.append_assoc, List.drop_left, List.take_left]
theorem row_pre {s r t : Cs} (hs : s ≠ []) (h : subIn (s ++ r) t = true) : subIn s t = true := by
  obtain ⟨a, b, rfl⟩ := (sub_mid (by simp [hs])).mp h
  exact (sub_mid hs).mpr ⟨a, r ++ b, by simp⟩
theorem row_suf {s r t : Cs} (hs : s ≠ []) (h : subIn (r ++ s) t = true) : subIn s t = true := by
  obtain ⟨a, b, rfl⟩ := (sub_mid (by simp [hs])).mp h
  exact (sub_mid hs).mpr ⟨a ++ r, b, by simp⟩
theorem row_three {v w x : Nat} {t : Cs} (h : subIn [v, w, x] t = true) : clo t v x 1 = true := by
  obtain ⟨a, b, rfl⟩ := (sub_mid (by simp)).mp h
  exact clo_iff.mpr ⟨a.length, a.length + 2, by simp, by simp, by omega, by omega⟩
theorem clo_mono {t : Cs} {v w g : Nat} (h : clo t v w g = true) : clo t v w (g + 1) = true := by
  obtain ⟨i, j, h1, h2, h3, h4⟩ := clo_iff.mp h
  exact clo_iff.mpr ⟨i, j, h1, h2, h3, by omega⟩
theorem cnt_two {t : Cs} {v i j : Nat} (h1 : t[i]? = some v) (h2 : t[j]? = some v) (h : i < j) : 2 ≤ t.count v := by
  have e := List.take_append_drop j t
  rw [← e, List.count_append]
  have a1 : v ∈ t.take j := List.mem_iff_getElem?.mpr ⟨i, by rw [List.getElem?_take, if_pos h]; exact h1⟩
  have a2 : v ∈ t.drop j := List.mem_iff_getElem?.mpr ⟨0, by rw [List.getElem?_drop]; simpa using h2⟩
  have b1 := List.count_pos_iff.mpr a1
  have b2 := List.count_pos_iff.mpr a2
  omega
theorem mem_sub {t : Cs} {v : Nat} : subIn [v] t = true ↔ v ∈ t := by rw [subIn_one, List.contains_iff_mem]
theorem begin_iff {t : Cs} {v : Nat} : (cut t none (some 1) == [v]) = true ↔ t[0]? = some v := by
  rw [cut0, beq_iff_eq]
  cases t <;> simp
theorem end_iff {t : Cs} {v : Nat} : (cut t (some (-1)) none == [v]) = true ↔ t.getLast? = some v := by
  rw [cutE]
  cases h : t.getLast? <;> simp
theorem all_count {t : Cs} {v : Nat} (h : t.length ≤ t.count v) : t = List.replicate t.length v := by
  have := List.count_le_length (a := v) (l := t)
  exact List.eq_replicate_iff.mpr ⟨rfl, fun b hb => (List.count_eq_length.mp (by omega) b hb).symm⟩
end WF


set_option linter.all false
set_option maxRecDepth 100000
set_option maxHeartbeats 4000000
/-! # MTold: the town among other objects; a value that tells the first text of a kind -/
namespace WF
/-- the town, and nothing with captured names -/
def Tw (n b : Nat) (S : Store) : Prop := ∃ R, Tn n b R S ∧ noCap R = true
theorem Tw.mono {n a b : Nat} {S : Store} (h : Tw n b S) (hab : a ≤ b) : Tw n a S := let ⟨R, h1, h2⟩ := h; ⟨R, h1.mono hab, h2⟩
theorem Tw.noCap {n b : Nat} {S : Store} (h : Tw n b S) : noCap S = true := by
  obtain ⟨R, ⟨c, is, _, _, _, rfl⟩, hR⟩ := h
  simpa [WF.noCap, MO.cap] using hR
theorem Tw.app {n b : Nat} {S S' : Store} (h : Tw n b S) (a : App S S') : Tw n b S' := by
  obtain ⟨R, ⟨c, is, h1, h2, h3, rfl⟩, hR⟩ := h
  obtain ⟨X, rfl, hX⟩ := a
  refine ⟨R ++ X, ⟨c, is, h1, h2, h3, rfl⟩, ?_⟩
  unfold WF.noCap at hR hX ⊢
  rw [List.all_append, hR, hX]
  rfl
section
variable {P : D → Store → Prop} {E : Nat → Store → Prop}
/-- a statement that goes on with the names as they were -/
theorem w_seqJ {S : Store} {F G : FS} {ρ : Env} {PC : Ctl → Store → Prop} (J : Store → Prop) (h : Wp (F ρ S) (fun c S1 => c = .next ρ ∧ J S1) E) (k : ∀ S1, J S1 → Wp (G ρ S1) PC E) : Wp (sSeq F G ρ S) PC E := by
  refine w_seq (h.imp fun c S1 e => ?_)
  obtain ⟨rfl, e⟩ := e
  exact nx_next (k S1 e)
theorem plains_str' : ∀ ts : List Cs, D.plains (ts.map D.str) = true
  | [] => rfl
  | t :: ts => by simp [D.plains, D.plain, plains_str' ts]
theorem depths_str' : ∀ ts : List Cs, D.depths (ts.map D.str) = 0
  | [] => rfl
  | t :: ts => by simp [D.depths, D.depth, depths_str' ts]
theorem eqvs_str_nil (ts : List Cs) : D.eqvs (ts.map D.str) [] = ts.isEmpty := by cases ts <;> rfl
theorem gEq_strs_nil {S : Store} {n : Nat} {ts : List Cs} (h : S[n]? = some (.lst (ts.map D.str))) : gEq (.loc n) (.lst []) S = .ok (.bl ts.isEmpty) S := by
  have hr : res S (.loc n) = .lst (ts.map D.str) := by simp only [res, h]
  unfold gEq
  rw [hr]
  simp [res, D.plain, plains_str', D.plains, D.depth, depths_str', D.depths, D.eqv, eqvs_str_nil]
theorem gNe_strs_nil {S : Store} {n : Nat} {ts : List Cs} (h : S[n]? = some (.lst (ts.map D.str))) : gNe (.loc n) (.lst []) S = .ok (.bl (!ts.isEmpty)) S := by
  simp [gNe, gEq_strs_nil h]
theorem gEq_tx {S : Store} {ts : List Cs} : gEq (.lst (ts.map D.str)) (.lst []) S = .ok (.bl ts.isEmpty) S := by
  simp [gEq, res, D.plain, plains_str', D.plains, D.depth, depths_str', D.depths, D.eqv, eqvs_str_nil]
theorem gNe_tx {S : Store} {ts : List Cs} : gNe (.lst (ts.map D.str)) (.lst []) S = .ok (.bl (!ts.isEmpty)) S := by
  simp [gNe, gEq_tx]
theorem gNe_str' {a b : Cs} {S : Store} : gNe (.str a) (.str b) S = .ok (.bl (!(a == b))) S := by
  simp [gNe, gEq_str']
theorem gNe_bl' {a b : Bool} {S : Store} : gNe (.bl a) (.bl b) S = .ok (.bl (!(a == b))) S := by
  simp [gNe, gEq, res, D.plain, D.depth, D.eqv]
theorem gEq_bl' {a b : Bool} {S : Store} : gEq (.bl a) (.bl b) S = .ok (.bl (a == b)) S := by
  simp [gEq, res, D.plain, D.depth, D.eqv]
theorem gNe_non {S : Store} : gNe .non .non S = .ok (.bl false) S := rfl
theorem len_tx {S : Store} {t : Cs} (h : t.length ≤ lim) : bLen (.str t) S = .ok (.int t.length) S := by
  simp only [bLen, res]
  rw [if_pos h]
theorem idx0_tx {S : Store} {x : Cs} {xs : List Cs} : gIdx (.lst ((x :: xs).map D.str)) (.int 0) S = .ok (.str x) S := gIdx_lst (by decide) rfl
end
/-- the first text of a kind, or None -/
def FirstOf (g : Cs → Bool) (d : D) : Prop := (d = .non ∧ ∀ t, okt t → g t = false) ∨ ∃ t, d = .str t ∧ okt t ∧ g t = true ∧ (∀ u, okt u → ahead u t → g u = false) ∧ t.length ≤ 2000000
section
variable {g : Cs → Bool} {d e : D}
theorem FirstOf.uni (h : FirstOf g d) (k : FirstOf g e) : d = e := by
  rcases h with ⟨rfl, h⟩ | ⟨t, rfl, h1, h2, h3, _⟩
  · rcases k with ⟨rfl, _⟩ | ⟨t, _, h1, h2, _⟩
    · rfl
    · rw [h t h1] at h2; cases h2
  · rcases k with ⟨rfl, k⟩ | ⟨u, rfl, k1, k2, k3, _⟩
    · rw [k t h1] at h2; cases h2
    · rcases ahead_total t u with z | z | z
      · rw [k3 t h1 z] at h2; cases h2
      · rw [z]
      · rw [h3 u k1 z] at k2; cases k2
theorem FirstOf.ne {S : Store} (h : FirstOf g d) : gNe d d S = .ok (.bl false) S := by
  rcases h with ⟨rfl, _⟩ | ⟨t, rfl, _⟩
  · rfl
  · rw [gNe_str', beq_self_eq_true]; rfl
theorem FirstOf.imp {g' : Cs → Bool} (h : FirstOf g d) (e : ∀ t, okt t → g t = g' t) : FirstOf g' d := by
  rcases h with ⟨rfl, h⟩ | ⟨t, rfl, h1, h2, h3, h4⟩
  · exact .inl ⟨rfl, fun t ht => by rw [← e t ht]; exact h t ht⟩
  · exact .inr ⟨t, rfl, h1, by rw [← e t h1]; exact h2, fun u hu hh => by rw [← e u hu]; exact h3 u hu hh, h4⟩
/-- some short text is of the kind: it is the first of them -/
theorem FirstOf.short {n : Nat} {x : Cs} {xs : List Cs} (h : FirstOf g d) (hf : (allT n).filter g = x :: xs) : d = .str x := by
  rcases h with ⟨rfl, h⟩ | ⟨t, rfl, h1, h2, h3, _⟩
  · have hx : x ∈ (allT n).filter g := by rw [hf]; simp
    obtain ⟨h1, h2⟩ := List.mem_filter.mp hx
    rw [h x (mem_allT.mp h1).1] at h2; cases h2
  · rw [first_short hf h1 h2 h3]
end
section
variable {ρ : Env} {S : Store}
/-- the texts of a kind -/
theorem texts_filter {it : FI} {tt : FT} {k : Nat} {ts : List Cs} (g : Cs → Bool) (hi : it ρ S = .ok (ts.map D.str, none) S) (hl : ts.length ≤ lim) (hk : k < ρ.length) (ht : ∀ t ∈ ts, tt ((wipe ρ [k]).set k (some (.str t))) S = .ok (g t) S) :
    dComp it (gName k) [k] tt (dVar k) ρ S = .ok (.lst ((ts.filter g).map D.str)) S := by
  rw [comp_pure (ds := ts.map D.str) (fun d => match d with | .str t => g t | _ => false) id hi (by simpa using hl)]
  · rw [List.map_id, List.filter_map]
    rfl
  · intro d hd
    obtain ⟨t, hm, rfl⟩ := List.mem_map.mp hd
    have e1 : ((wipe ρ [k]).set k (some (.str t)))[k]? = some (some (.str t)) := by simp [wipe, hk]
    exact ⟨_, rfl, ht t hm, fun _ => by simp only [dVar, e1, id]⟩
end
end WF


set_option linter.all false
set_option maxRecDepth 100000
set_option maxHeartbeats 4000000
/-! # MPairs: the search for a find on two pages, in plain Lean -/
namespace WF
/-- what was read on the first page, and on the second one, if it was begun -/
structure Pth where
  one : Cs
  two : Option Cs
namespace Pth
def joint (p : Pth) : Cs := p.one ++ p.two.getD []
def len (p : Pth) : Nat := p.one.length + (p.two.getD []).length
def okp (q : Q) (p : Pth) : Prop := okt p.one ∧ ∀ o, p.two = some o → okt o ∧ q.ev p.one = false
def ext (p : Pth) (c : Nat) : Pth := match p with
  | ⟨a, none⟩ => ⟨a ++ [c], none⟩
  | ⟨a, some o⟩ => ⟨a, some (o ++ [c])⟩
def want (q : Q) (p : Pth) : Bool := match p with
  | ⟨_, none⟩ => false
  | ⟨a, some o⟩ => q.ev (a ++ o) && !q.ev o
def fresh (p : Pth) : Prop := p.two = some []
end Pth
open Pth
abbrev Key := List Cs × Option (List Cs)
def pkey (sim : List Q) (p : Pth) : Key := (sts sim p.joint, p.two.map (sts sim))
def encO : Option (List Cs) → D
  | none => .non
  | some s => encS s
def encP (k : Key) : D := .tup [encS k.1, encO k.2]
theorem encO_inj : ∀ {a b : Option (List Cs)}, encO a = encO b → a = b
  | none, none, _ => rfl
  | none, some _, h => by cases h
  | some _, none, h => by cases h
  | some a, some b, h => by rw [encS_inj h]
theorem encP_inj {a b : Key} (h : encP a = encP b) : a = b := by
  simp only [encP, D.tup.injEq, List.cons.injEq, and_true] at h
  exact Prod.ext (encS_inj h.1) (encO_inj h.2)
theorem encO_key : ∀ {a : Option (List Cs)}, (encO a).isKey = true
  | none => rfl
  | some _ => encS_key
theorem encO_depth : ∀ {a : Option (List Cs)}, (encO a).depth ≤ 1
  | none => by simp [encO, D.depth]
  | some _ => by simp [encO, encS, D.depth, depths_strs']
theorem encP_ok {k : Key} : (encP k).okKey = true := by
  have h := encO_depth (a := k.2)
  have h2 : (encS k.1).depth = 1 := by simp [encS, D.depth, depths_strs']
  have h3 : D.depths [encS k.1, encO k.2] ≤ 7 := by
    simp only [D.depths, h2]
    omega
  simp only [encP, D.okKey, D.areKeys, encS_key, encO_key, Bool.and_self, Bool.true_and, decide_eq_true_eq]
  exact h3
section
variable {q : Q} {sim : List Q} {p p' : Pth} {c k : Nat}
theorem joint_ext : (p.ext c).joint = p.joint ++ [c] := by
  obtain ⟨a, o⟩ := p
  cases o <;> simp [Pth.ext, Pth.joint]
theorem len_ext : (p.ext c).len = p.len + 1 := by
  obtain ⟨a, o⟩ := p
  cases o <;> simp [Pth.ext, Pth.len] <;> omega
theorem fresh_ext : ¬ (p.ext c).fresh := by
  obtain ⟨a, o⟩ := p
  cases o <;> simp [Pth.ext, Pth.fresh]
theorem okp_ext (h : p.okp q) (hc : okc c) : (p.ext c).okp q := by
  obtain ⟨a, o⟩ := p
  cases o with
  | none => exact ⟨okt_snoc.mpr ⟨h.1, hc⟩, fun o z => by cases z⟩
  | some o => exact ⟨h.1, fun o' z => by cases z; exact ⟨okt_snoc.mpr ⟨(h.2 o rfl).1, hc⟩, (h.2 o rfl).2⟩⟩
theorem okp_joint (h : p.okp q) : okt p.joint := by
  obtain ⟨a, o⟩ := p
  cases o with
  | none => simpa [Pth.joint] using h.1
  | some o => exact fun c hc => (List.mem_append.mp hc).elim (h.1 c) ((h.2 o rfl).1 c)
theorem pkey_ext (h : pkey sim p = pkey sim p') : pkey sim (p.ext c) = pkey sim (p'.ext c) := by
  obtain ⟨h1, h2⟩ := Prod.ext_iff.mp h
  simp only [pkey] at h1 h2
  refine Prod.ext ?_ ?_
  · show sts sim (p.ext c).joint = sts sim (p'.ext c).joint
    rw [joint_ext, joint_ext]
    exact sts_ext h1 [c]
  · obtain ⟨a, o⟩ := p
    obtain ⟨a', o'⟩ := p'
    cases o <;> cases o' <;> simp [Pth.ext, pkey] at h2 ⊢
    exact sts_ext h2 [c]
theorem pkey_none (h : pkey sim p = pkey sim p') (e : p'.two = none) : p.two = none ∧ sts sim p.one = sts sim p'.one := by
  obtain ⟨a, o⟩ := p
  obtain ⟨a', o'⟩ := p'
  simp only at e
  subst e
  cases o with
  | none => exact ⟨rfl, by simpa [pkey, Pth.joint] using h⟩
  | some o => simp [pkey] at h
theorem want_key (hs : Sims sim) (hq : Subs sim q) (h1 : p.okp q) (h2 : p'.okp q) (h : pkey sim p = pkey sim p') : p.want q = p'.want q := by
  obtain ⟨a, o⟩ := p
  obtain ⟨a', o'⟩ := p'
  cases o with
  | none =>
    cases o' with
    | none => rfl
    | some o' => simp [pkey] at h
  | some o =>
    cases o' with
    | none => simp [pkey] at h
    | some o' =>
      simp only [pkey, Pth.joint, Option.getD_some, Option.map_some, Prod.mk.injEq, Option.some.injEq] at h
      have e1 := ev_sts hs (okp_joint h1) (okp_joint h2) h.1 hq
      have e2 := ev_sts hs (h1.2 o rfl).1 (h2.2 o' rfl).1 h.2 hq
      simp only [Pth.joint, Option.getD_some] at e1
      simp only [Pth.want, e1, e2]
/-- the second page is begun -/
def cutP (p : Pth) : Pth := ⟨p.one, some []⟩
theorem cutP_ok (h : p.okp q) (e : q.ev p.one = false) : (cutP p).okp q := ⟨h.1, fun o z => by cases z; exact ⟨okt_nil, e⟩⟩
theorem cutP_len (h : p.two = none) : (cutP p).len = p.len := by simp [cutP, Pth.len, h]
theorem cutP_key : pkey sim (cutP p) = (sts sim p.one, some (sts sim [])) := by simp [cutP, pkey, Pth.joint]
/-- a path that was not just cut comes from a shorter one -/
theorem back (h : p.okp q) (hl : p.len = k + 1) (hf : ¬ p.fresh) : ∃ (p0 : Pth) (c : Nat), p0.okp q ∧ okc c ∧ p0.len = k ∧ p = p0.ext c := by
  obtain ⟨a, o⟩ := p
  cases o with
  | none =>
    rcases List.eq_nil_or_concat a with e | ⟨a0, c, e⟩
    · subst e; simp [Pth.len] at hl
    · rw [List.concat_eq_append] at e
      subst e
      obtain ⟨h1, h2⟩ := okt_snoc.mp h.1
      exact ⟨⟨a0, none⟩, c, ⟨h1, fun o z => by cases z⟩, h2, by simp [Pth.len] at hl ⊢; omega, rfl⟩
  | some o =>
    rcases List.eq_nil_or_concat o with e | ⟨o0, c, e⟩
    · subst e; exact absurd rfl hf
    · rw [List.concat_eq_append] at e
      subst e
      obtain ⟨h3, h4⟩ := h.2 _ rfl
      obtain ⟨h1, h2⟩ := okt_snoc.mp h3
      exact ⟨⟨a, some o0⟩, c, ⟨h.1, fun o z => by cases z; exact ⟨h1, h4⟩⟩, h2, by simp [Pth.len] at hl ⊢; omega, rfl⟩
/-- at the beginning of a level -/
structure PLev (q : Q) (sim : List Q) (k : Nat) (T : List Pth) (ks : List D) : Prop where
  ok : ∀ p ∈ T, p.okp q ∧ p.len = k
  nd : ks.Nodup
  of : ∀ x ∈ ks, ∃ p : Pth, p.okp q ∧ p.len ≤ k ∧ (p.fresh → p.len < k) ∧ x = encP (pkey sim p)
  all : ∀ p : Pth, p.okp q → p.len ≤ k → (p.fresh → p.len < k) → (∃ p' : Pth, p'.okp q ∧ p'.len < k ∧ pkey sim p' = pkey sim p) ∨ ∃ p' ∈ T, pkey sim p' = pkey sim p
  to : ∀ p : Pth, p.okp q → p.len ≤ k → (p.fresh → p.len < k) → encP (pkey sim p) ∈ ks
  no : ∀ p : Pth, p.okp q → p.len < k → p.want q = false
/-- the cuts of a level: A was looked at, L was added -/
structure PMid1 (q : Q) (sim : List Q) (k n : Nat) (A L : List Pth) (ks : List D) : Prop where
  lok : ∀ p ∈ L, p.okp q ∧ p.len = k
  nd : ks.Nodup
  of : ∀ x ∈ ks, (∃ p : Pth, p.okp q ∧ p.len ≤ k ∧ (p.fresh → p.len < k) ∧ x = encP (pkey sim p)) ∨ ∃ p ∈ L, x = encP (pkey sim p)
  to : ∀ p : Pth, p.okp q → p.len ≤ k → (p.fresh → p.len < k) → encP (pkey sim p) ∈ ks
  toL : ∀ p ∈ L, encP (pkey sim p) ∈ ks
  done : ∀ p ∈ A, p.two = none → q.ev p.one = false → encP (pkey sim (cutP p)) ∈ ks
  len : ks.length = n + L.length
theorem PMid1.start {T : List Pth} {ks : List D} (l : PLev q sim k T ks) : PMid1 q sim k ks.length [] [] ks :=
  ⟨by simp, l.nd, fun x hx => .inl (l.of x hx), l.to, by simp, by simp, rfl⟩
theorem PMid1.old {n : Nat} {A L : List Pth} {ks : List D} (m : PMid1 q sim k n A L ks) (h : p.two = none → q.ev p.one = false → encP (pkey sim (cutP p)) ∈ ks) : PMid1 q sim k n (A ++ [p]) L ks :=
  ⟨m.lok, m.nd, m.of, m.to, m.toL, fun x hx => by
    rcases List.mem_append.mp hx with z | z
    · exact m.done x z
    · rw [List.mem_singleton.mp z]; exact h, m.len⟩
theorem PMid1.new {n : Nat} {A L : List Pth} {ks : List D} (m : PMid1 q sim k n A L ks) (hp : p.okp q) (hl : p.len = k) (e : p.two = none) (hf : q.ev p.one = false) (h : encP (pkey sim (cutP p)) ∉ ks) :
    PMid1 q sim k n (A ++ [p]) (L ++ [cutP p]) (ks ++ [encP (pkey sim (cutP p))]) := by
  refine ⟨fun x hx => ?_, ?_, fun x hx => ?_, fun x h1 h2 h3 => List.mem_append_left _ (m.to x h1 h2 h3), fun x hx => ?_, fun x hx h1 h2 => ?_, ?_⟩
  · rcases List.mem_append.mp hx with z | z
    · exact m.lok x z
    · rw [List.mem_singleton.mp z]; exact ⟨cutP_ok hp hf, (cutP_len e).trans hl⟩
  · rw [List.nodup_append]
    exact ⟨m.nd, by simp, fun a ha b hb e => h (by rw [← List.mem_singleton.mp hb, ← e]; exact ha)⟩
  · rcases List.mem_append.mp hx with z | z
    · rcases m.of x z with h | ⟨t, h1, h2⟩
      · exact .inl h
      · exact .inr ⟨t, List.mem_append_left _ h1, h2⟩
    · exact .inr ⟨cutP p, by simp, List.mem_singleton.mp z⟩
  · rcases List.mem_append.mp hx with z | z
    · exact List.mem_append_left _ (m.toL x z)
    · rw [List.mem_singleton.mp z]; simp
  · rcases List.mem_append.mp hx with z | z
    · exact List.mem_append_left _ (m.done x z h1 h2)
    · rw [List.mem_singleton.mp z]; simp
  · rw [List.length_append, List.length_append, m.len]
    simp
    omega
/-- a whole level -/
structure PFull (q : Q) (sim : List Q) (k : Nat) (T : List Pth) (ks : List D) : Prop where
  ok : ∀ p ∈ T, p.okp q ∧ p.len = k
  nd : ks.Nodup
  of : ∀ x ∈ ks, ∃ p : Pth, p.okp q ∧ p.len ≤ k ∧ x = encP (pkey sim p)
  all : ∀ p : Pth, p.okp q → p.len ≤ k → (∃ p' : Pth, p'.okp q ∧ p'.len < k ∧ pkey sim p' = pkey sim p) ∨ ∃ p' ∈ T, pkey sim p' = pkey sim p
  to : ∀ p : Pth, p.okp q → p.len ≤ k → encP (pkey sim p) ∈ ks
  no : ∀ p : Pth, p.okp q → p.len < k → p.want q = false
theorem PMid1.full {n : Nat} {T L : List Pth} {ks0 ks : List D} (hs : Sims sim) (hq : Subs sim q) (l : PLev q sim k T ks0) (m : PMid1 q sim k n T L ks) : PFull q sim k (T ++ L) ks := by
  have old : ∀ p : Pth, p.okp q → p.len ≤ k → (p.fresh → p.len < k) → (∃ p' : Pth, p'.okp q ∧ p'.len < k ∧ pkey sim p' = pkey sim p) ∨ ∃ p' ∈ T ++ L, pkey sim p' = pkey sim p := fun p h1 h2 h3 => by
    rcases l.all p h1 h2 h3 with h | ⟨p', h, e⟩
    · exact .inl h
    · exact .inr ⟨p', List.mem_append_left _ h, e⟩
  have ofm : ∀ p : Pth, encP (pkey sim p) ∈ ks → (∃ p' : Pth, p'.okp q ∧ p'.len < k ∧ pkey sim p' = pkey sim p) ∨ ∃ p' ∈ T ++ L, pkey sim p' = pkey sim p := fun p h => by
    rcases m.of _ h with ⟨p', h1, h2, h3, e⟩ | ⟨p', h1, e⟩
    · have e' := encP_inj e
      rw [e']
      exact old p' h1 h2 h3
    · exact .inr ⟨p', List.mem_append_right _ h1, (encP_inj e).symm⟩
  -- a path that was just cut
  have cutc : ∀ p : Pth, p.okp q → p.len = k → p.fresh → (∃ p' : Pth, p'.okp q ∧ p'.len < k ∧ pkey sim p' = pkey sim p) ∨ encP (pkey sim p) ∈ ks := fun p h1 h2 h3 => by
    obtain ⟨a, o⟩ := p
    have h3' : o = some [] := h3
    subst h3'
    have hev := (h1.2 [] rfl).2
    have hlen : a.length = k := by simpa [Pth.len] using h2
    have h1' : (⟨a, none⟩ : Pth).okp q := ⟨h1.1, fun o z => by cases z⟩
    rcases l.all ⟨a, none⟩ h1' (by simp [Pth.len]; omega) (fun z => by cases z) with ⟨p', g1, g2, g3⟩ | ⟨p', g1, g3⟩
    · obtain ⟨e1, e2⟩ := pkey_none g3 rfl
      have hev' : q.ev p'.one = false := by rw [ev_sts hs g1.1 h1.1 e2 hq]; exact hev
      refine .inl ⟨cutP p', cutP_ok g1 hev', by rw [cutP_len e1]; exact g2, ?_⟩
      rw [cutP_key, e2]
      simp [pkey, Pth.joint]
    · obtain ⟨e1, e2⟩ := pkey_none g3 rfl
      have g2 := l.ok p' g1
      have hev' : q.ev p'.one = false := by rw [ev_sts hs g2.1.1 h1.1 e2 hq]; exact hev
      have := m.done p' g1 e1 hev'
      rw [cutP_key, e2] at this
      right
      have e : pkey sim ⟨a, some []⟩ = (sts sim a, some (sts sim [])) := by simp [pkey, Pth.joint]
      rw [e]
      exact this
  refine ⟨fun p hp => ?_, m.nd, fun x hx => ?_, fun p h1 h2 => ?_, fun p h1 h2 => ?_, l.no⟩
  · rcases List.mem_append.mp hp with z | z
    · exact l.ok p z
    · exact m.lok p z
  · rcases m.of x hx with ⟨p, h1, h2, _, e⟩ | ⟨p, h1, e⟩
    · exact ⟨p, h1, h2, e⟩
    · exact ⟨p, (m.lok p h1).1, by rw [(m.lok p h1).2]; exact Nat.le_refl _, e⟩
  · by_cases z : p.fresh → p.len < k
    · exact old p h1 h2 z
    · have hf : p.fresh := Classical.byContradiction fun y => z fun w => absurd w y
      have hl : ¬ p.len < k := fun y => z fun _ => y
      rcases cutc p h1 (by omega) hf with h | h
      · exact .inl h
      · exact ofm p h
  · by_cases z : p.fresh → p.len < k
    · exact m.to p h1 h2 z
    · have hf : p.fresh := Classical.byContradiction fun y => z fun w => absurd w y
      have hl : ¬ p.len < k := fun y => z fun _ => y
      rcases cutc p h1 (by omega) hf with ⟨p', g1, g2, g3⟩ | h
      · rw [← g3]
        exact m.to p' g1 (by omega) fun _ => g2
      · exact h
/-- the next paths of a level: G was looked at, L was kept -/
structure PMid2 (q : Q) (sim : List Q) (k n : Nat) (G L : List Pth) (ks : List D) : Prop where
  gok : ∀ g ∈ G, g.okp q ∧ g.len = k + 1 ∧ ¬ g.fresh
  sub : ∀ t ∈ L, t ∈ G
  nd : ks.Nodup
  of : ∀ x ∈ ks, (∃ p : Pth, p.okp q ∧ p.len ≤ k ∧ x = encP (pkey sim p)) ∨ ∃ p ∈ L, x = encP (pkey sim p)
  to : ∀ p : Pth, p.okp q → p.len ≤ k → encP (pkey sim p) ∈ ks
  toG : ∀ g ∈ G, encP (pkey sim g) ∈ ks
  len : ks.length = n + L.length
theorem PMid2.start {T : List Pth} {ks : List D} (l : PFull q sim k T ks) : PMid2 q sim k ks.length [] [] ks :=
  ⟨by simp, by simp, l.nd, fun x hx => .inl (l.of x hx), l.to, by simp, rfl⟩
theorem PMid2.old {n : Nat} {G L : List Pth} {ks : List D} (m : PMid2 q sim k n G L ks) (hp : p.okp q ∧ p.len = k + 1 ∧ ¬ p.fresh) (h : encP (pkey sim p) ∈ ks) : PMid2 q sim k n (G ++ [p]) L ks :=
  ⟨fun x hx => by
    rcases List.mem_append.mp hx with z | z
    · exact m.gok x z
    · rw [List.mem_singleton.mp z]; exact hp, fun t ht => List.mem_append_left _ (m.sub t ht), m.nd, m.of, m.to, fun x hx => by
    rcases List.mem_append.mp hx with z | z
    · exact m.toG x z
    · rw [List.mem_singleton.mp z]; exact h, m.len⟩
theorem PMid2.new {n : Nat} {G L : List Pth} {ks : List D} (m : PMid2 q sim k n G L ks) (hp : p.okp q ∧ p.len = k + 1 ∧ ¬ p.fresh) (h : encP (pkey sim p) ∉ ks) : PMid2 q sim k n (G ++ [p]) (L ++ [p]) (ks ++ [encP (pkey sim p)]) := by
  refine ⟨fun x hx => ?_, fun t ht => ?_, ?_, fun x hx => ?_, fun x h1 h2 => List.mem_append_left _ (m.to x h1 h2), fun x hx => ?_, ?_⟩
  · rcases List.mem_append.mp hx with z | z
    · exact m.gok x z
    · rw [List.mem_singleton.mp z]; exact hp
  · rcases List.mem_append.mp ht with z | z
    · exact List.mem_append_left _ (m.sub t z)
    · exact List.mem_append_right _ z
  · rw [List.nodup_append]
    exact ⟨m.nd, by simp, fun a ha b hb e => h (by rw [← List.mem_singleton.mp hb, ← e]; exact ha)⟩
  · rcases List.mem_append.mp hx with z | z
    · rcases m.of x z with h | ⟨t, h1, h2⟩
      · exact .inl h
      · exact .inr ⟨t, List.mem_append_left _ h1, h2⟩
    · exact .inr ⟨p, by simp, List.mem_singleton.mp z⟩
  · rcases List.mem_append.mp hx with z | z
    · exact List.mem_append_left _ (m.toG x z)
    · rw [List.mem_singleton.mp z]; simp
  · rw [List.length_append, List.length_append, m.len]
    simp
    omega
/-- the next paths of all -/
def nextP (T : List Pth) : List Pth := T.flatMap fun p => [97, 98, 99, 100].map fun c => p.ext c
theorem mem_nextP {T : List Pth} (h : p ∈ T) (hc : okc c) : p.ext c ∈ nextP T := by
  unfold nextP
  rw [List.mem_flatMap]
  refine ⟨p, h, List.mem_map.mpr ⟨c, ?_, rfl⟩⟩
  rcases hc with e | e | e | e <;> subst e <;> simp
theorem PMid2.next {n : Nat} {T L : List Pth} {ks0 ks : List D} (hs : Sims sim) (hq : Subs sim q) (l : PFull q sim k T ks0) (hT : ∀ p ∈ T, p.want q = false) (m : PMid2 q sim k n (nextP T) L ks) : PLev q sim (k + 1) L ks := by
  have step : ∀ p : Pth, p.okp q → p.len = k + 1 → ¬ p.fresh → (∃ p' : Pth, p'.okp q ∧ p'.len ≤ k ∧ pkey sim p' = pkey sim p) ∨ encP (pkey sim p) ∈ ks := fun p h1 h2 h3 => by
    obtain ⟨p0, c, g1, g2, g3, rfl⟩ := back h1 h2 h3
    rcases l.all p0 g1 (by omega) with ⟨p', f1, f2, f3⟩ | ⟨p', f1, f3⟩
    · exact .inl ⟨p'.ext c, okp_ext f1 g2, by rw [len_ext]; omega, pkey_ext f3⟩
    · right
      have := m.toG _ (mem_nextP f1 g2)
      rw [pkey_ext f3] at this
      exact this
  refine ⟨fun p hp => ?_, m.nd, fun x hx => ?_, fun p h1 h2 h3 => ?_, fun p h1 h2 h3 => ?_, fun p h1 h2 => ?_⟩
  · have := m.gok p (m.sub p hp)
    exact ⟨this.1, this.2.1⟩
  · rcases m.of x hx with ⟨p, h1, h2, e⟩ | ⟨p, h1, e⟩
    · exact ⟨p, h1, by omega, fun _ => by omega, e⟩
    · have := m.gok p (m.sub p h1)
      exact ⟨p, this.1, by rw [this.2.1]; exact Nat.le_refl _, fun z => absurd z this.2.2, e⟩
  · by_cases z : p.len ≤ k
    · exact .inl ⟨p, h1, by omega, rfl⟩
    · have hl : p.len = k + 1 := by omega
      have hf : ¬ p.fresh := fun y => by have := h3 y; omega
      rcases step p h1 hl hf with ⟨p', f1, f2, f3⟩ | h
      · exact .inl ⟨p', f1, by omega, f3⟩
      · rcases m.of _ h with ⟨p', f1, f2, e⟩ | ⟨p', f1, e⟩
        · exact .inl ⟨p', f1, by omega, (encP_inj e).symm⟩
        · exact .inr ⟨p', f1, (encP_inj e).symm⟩
  · by_cases z : p.len ≤ k
    · exact m.to p h1 z
    · have hl : p.len = k + 1 := by omega
      have hf : ¬ p.fresh := fun y => by have := h3 y; omega
      rcases step p h1 hl hf with ⟨p', f1, f2, f3⟩ | h
      · rw [← f3]; exact m.to p' f1 f2
      · exact h
  · by_cases z : p.len < k
    · exact l.no p h1 z
    · rcases l.all p h1 (by omega) with ⟨p', f1, f2, f3⟩ | ⟨p', f1, f3⟩
      · rw [← want_key hs hq f1 h1 f3]; exact l.no p' f1 f2
      · rw [← want_key hs hq (l.ok p' f1).1 h1 f3]; exact hT p' f1
/-- no level more: nothing is wanted -/
theorem PLev.empty {ks : List D} (hs : Sims sim) (hq : Subs sim q) (l : PLev q sim k [] ks) : ∀ p : Pth, p.okp q → p.want q = false := by
  have cut' : ∀ n, (∀ p : Pth, p.okp q → p.len = n → ¬ p.fresh → ∃ p' : Pth, p'.okp q ∧ p'.len < k ∧ pkey sim p' = pkey sim p) → ∀ p : Pth, p.okp q → p.len = n → ∃ p' : Pth, p'.okp q ∧ p'.len < k ∧ pkey sim p' = pkey sim p := fun n ih p h1 h2 => by
    by_cases hf : p.fresh
    · obtain ⟨a, o⟩ := p
      have h3' : o = some [] := hf
      subst h3'
      have hev := (h1.2 [] rfl).2
      obtain ⟨p', g1, g2, g3⟩ := ih ⟨a, none⟩ ⟨h1.1, fun o z => by cases z⟩ (by simpa [Pth.len] using h2) (fun z => by cases z)
      obtain ⟨e1, e2⟩ := pkey_none g3 rfl
      have hev' : q.ev p'.one = false := by rw [ev_sts hs g1.1 h1.1 e2 hq]; exact hev
      refine ⟨cutP p', cutP_ok g1 hev', by rw [cutP_len e1]; exact g2, ?_⟩
      rw [cutP_key, e2]
      simp [pkey, Pth.joint]
    · exact ih p h1 h2 hf
  have red : ∀ n, ∀ p : Pth, p.okp q → p.len = n → ∃ p' : Pth, p'.okp q ∧ p'.len < k ∧ pkey sim p' = pkey sim p := fun n => by
    induction n with
    | zero =>
      refine cut' 0 fun p h1 h2 h3 => ?_
      by_cases z : 0 < k
      · exact ⟨p, h1, by omega, rfl⟩
      · rcases l.all p h1 (by omega) (fun y => absurd y h3) with h | ⟨p', h, _⟩
        · exact h
        · simp at h
    | succ n ih =>
      refine cut' (n + 1) fun p h1 h2 h3 => ?_
      obtain ⟨p0, c, g1, g2, g3, rfl⟩ := back h1 h2 h3
      obtain ⟨p', f1, f2, f3⟩ := ih p0 g1 g3
      have e := pkey_ext (c := c) f3
      by_cases z : p'.len + 1 < k
      · exact ⟨p'.ext c, okp_ext f1 g2, by rw [len_ext]; exact z, e⟩
      · rcases l.all (p'.ext c) (okp_ext f1 g2) (by rw [len_ext]; omega) (fun y => absurd y fresh_ext) with ⟨p2, a1, a2, a3⟩ | ⟨p2, h, _⟩
        · exact ⟨p2, a1, a2, a3.trans e⟩
        · simp at h
  intro p hp
  obtain ⟨p', h1, h2, h3⟩ := red p.len p hp rfl
  rw [← want_key hs hq h1 hp h3]
  exact l.no p' h1 h2
theorem PLev.zero : PLev q sim 0 [⟨[], none⟩] [encP (pkey sim ⟨[], none⟩)] := by
  have z : ∀ p : Pth, p.len ≤ 0 → (p.fresh → p.len < 0) → p = ⟨[], none⟩ := fun p h1 h2 => by
    obtain ⟨a, o⟩ := p
    have ha : a = [] := by
      cases a with
      | nil => rfl
      | cons c a => simp [Pth.len] at h1
    subst ha
    cases o with
    | none => rfl
    | some o =>
      have ho : o = [] := by
        cases o with
        | nil => rfl
        | cons c o => simp [Pth.len] at h1
      subst ho
      have := h2 rfl
      omega
  refine ⟨fun p hp => ?_, by simp, fun x hx => ?_, fun p h1 h2 h3 => .inr ⟨p, by rw [z p h2 h3]; simp, rfl⟩, fun p h1 h2 h3 => by rw [z p h2 h3]; simp, fun p _ h => by omega⟩
  · rw [List.mem_singleton.mp hp]
    exact ⟨⟨okt_nil, fun o z => by cases z⟩, rfl⟩
  · exact ⟨⟨[], none⟩, ⟨okt_nil, fun o z => by cases z⟩, by simp [Pth.len], fun z => (by cases z), List.mem_singleton.mp hx⟩
end
end WF


set_option linter.all false
set_option maxRecDepth 100000
set_option maxHeartbeats 4000000
/-! # MSpread: spread_find -/
namespace WF
open Pth
def itemP (sim : List Q) (p : Pth) : D := .tup [encS (sts sim p.joint), encO (p.two.map (sts sim)), .str p.one, .str (p.two.getD [])]
theorem itemP_none {sim : List Q} {a : Cs} : itemP sim ⟨a, none⟩ = .tup [encS (sts sim a), .non, .str a, .str []] := by simp [itemP, Pth.joint, encO]
theorem itemP_some {sim : List Q} {a o : Cs} : itemP sim ⟨a, some o⟩ = .tup [encS (sts sim (a ++ o)), encS (sts sim o), .str a, .str o] := rfl
theorem plains_itemP {sim : List Q} : ∀ T : List Pth, D.plains (T.map (itemP sim)) = true
  | [] => rfl
  | p :: T => by
    have h : (itemP sim p).isKey = true := by simp [itemP, D.isKey, D.areKeys, encS_key, encO_key]
    simp only [List.map_cons, D.plains, key_plain h, plains_itemP T, Bool.and_self]
/-- the pair is spread -/
def spreadB (q : Q) (a o : Cs) : Bool := !q.ev a && (!q.ev o && q.ev (a ++ o))
section
variable {q : Q} {sim : List Q} {r : Nat} {S : Store} {P : D → Store → Prop} {E : Nat → Store → Prop}
theorem w_wordsN {i : Nat} {ρ : Env} {S : Store} {PC : Ctl → Store → Prop} {F : FS} (I : List Nat → Env → Store → Prop) (h0 : I [97, 98, 99, 100] ρ S) (hn : ∀ ρ S, I [] ρ S → PC (.next ρ) S)
    (hs : ∀ c cs ρ S, I (c :: cs) ρ S → Wp (F (ρ.set i (some (.str [c]))) S) (fun k S2 => ∃ ρ2, k = .next ρ2 ∧ I cs ρ2 S2) E) : Wp (sFor (iVal (dC (.str [97, 98, 99, 100]))) (gName i) F ρ S) PC E := by
  refine w_forV (fun ds ρ S => ∃ cs, ds = signs cs ∧ I cs ρ S) (all := signs [97, 98, 99, 100]) rfl ⟨_, rfl, h0⟩ ?_ ?_
  · rintro ρ S ⟨cs, h1, h2⟩
    have : cs = [] := by simpa [signs] using h1.symm
    subst this
    exact hn ρ S h2
  · rintro d ds ρ S ⟨cs, h1, h2⟩
    cases cs with
    | nil => simp [signs] at h1
    | cons c cs =>
      simp only [signs, List.map_cons, List.cons.injEq] at h1
      obtain ⟨rfl, rfl⟩ := h1
      refine w_gn ((hs c cs ρ S h2).imp fun k S2 h => ?_)
      obtain ⟨ρ2, rfl, h⟩ := h
      exact ⟨cs, rfl, h⟩
/-- the first answer -/
theorem ans0 {b : Bool} {S : Store} : gIdx (.tup [.bl b]) (.int 0) S = .ok (.bl b) S := rfl
end
end WF


set_option linter.all false
set_option maxRecDepth 100000
set_option maxHeartbeats 4000000
/-! # MMut: lists that are changed later -/
namespace WF
section
variable {S : Store} {P : D → Store → Prop} {E : Nat → Store → Prop}
theorem lstOf_at {S : Store} {n : Nat} {ds : List D} (h : S[n]? = some (.lst ds)) : lstOf S (.loc n) = some ds := by
  simp [lstOf, res, h]
/-- xs = [..], xs changed later -/
theorem w_sNew {S0 S : Store} {L : List D} {r : List FE} {i : Nat} {G : FS} {ρ : Env} {PC : Ctl → Store → Prop} (h0 : App S0 S) (h : Wp (evalAll r ρ S) (fun xs S1 => xs = L ∧ S1 = S) E)
    (k : ∀ n S', App S0 S' → S0.length ≤ n → S'[n]? = some (.lst L) → Wp (G (ρ.set i (some (.loc n))) S') PC E) : Wp (sSeq (sAsg (dNew r) (gName i)) G ρ S) PC E := by
  refine w_seq (w_asg (w_new (h.imp fun xs S1 e => ?_)))
  obtain ⟨rfl, rfl⟩ := e
  refine w_gn (nx_next (k _ _ (h0.trans (.one rfl)) ?_ (by simp)))
  obtain ⟨X, rfl, _⟩ := h0
  simp
/-- xs = xs + [..] -/
theorem w_sCat {S0 S : Store} {L M : List D} {b : FE} {i n : Nat} {G : FS} {ρ : Env} {PC : Ctl → Store → Prop} (h0 : App S0 S) (hv : ρ[i]? = some (some (.loc n))) (hn : S[n]? = some (.lst L)) (h : Wp (b ρ S) (fun y S1 => y = .lst M ∧ S1 = S) E) (hl : L.length + M.length ≤ lim)
    (k : ∀ n S', App S0 S' → S0.length ≤ n → S'[n]? = some (.lst (L ++ M)) → Wp (G (ρ.set i (some (.loc n))) S') PC E) : Wp (sSeq (sAsg (dCatNew (dVar i) b) (gName i)) G ρ S) PC E := by
  refine w_seq (w_asg (w_catNew (w_var hv (h.imp fun y S1 e => ?_))))
  obtain ⟨rfl, rfl⟩ := e
  refine ⟨_, _, lstOf_at hn, rfl, hl, w_gn (nx_next (k _ _ (h0.trans (.one rfl)) ?_ (by simp)))⟩
  obtain ⟨X, rfl, _⟩ := h0
  simp
/-- xs.append(..) -/
theorem w_sApp {S0 S : Store} {L : List D} {x : D} {b : FE} {i n : Nat} {G : FS} {ρ : Env} {PC : Ctl → Store → Prop} (h0 : App S0 S) (hv : ρ[i]? = some (some (.loc n))) (h1 : S0.length ≤ n) (hn : S[n]? = some (.lst L)) (h : Wp (b ρ S) (fun y S1 => y = x ∧ S1 = S) E) (hl : L.length < lim)
    (k : ∀ S', App S0 S' → S'[n]? = some (.lst (L ++ [x])) → Wp (G ρ S') PC E) : Wp (sSeq (sExpr (dApp (dVar i) b)) G ρ S) PC E := by
  refine w_seq (w_expr (w_app (w_var hv ⟨n, L, rfl, hn, h.imp fun y S1 e => ?_⟩)))
  obtain ⟨rfl, rfl⟩ := e
  refine ⟨L, hn, hl, nx_next (k _ ?_ ?_)⟩
  · refine app_of (fun i hi => ?_) (by rw [List.length_set]; obtain ⟨X, rfl, _⟩ := h0; simp) fun i mo hi e => ?_
    · rw [List.getElem?_set_ne (by omega)]
      obtain ⟨X, rfl, _⟩ := h0
      rw [List.getElem?_append_left hi]
    · by_cases z : n = i
      · subst z
        rw [List.getElem?_set_self (lt_of_get hn)] at e
        cases e; rfl
      · rw [List.getElem?_set_ne z] at e
        obtain ⟨X, rfl, hX⟩ := h0
        rw [List.getElem?_append_right hi] at e
        exact noCap_at hX e
  · rw [List.getElem?_set_self (lt_of_get hn)]
theorem len_le {n : Nat} (h : Nat.ble n 16777216 = true) : n ≤ lim := Nat.le_of_ble_eq_true h
end
end WF


set_option linter.all false
set_option maxRecDepth 100000
set_option maxHeartbeats 4000000
/-! # MLeast: least finds -/
namespace WF
/-- a text with one word left out -/
def del (t : Cs) (i : Nat) : Cs := t.take i ++ t.drop (i + 1)
def leastQ (q : Q) (t : Cs) : Bool := q.ev t && !((List.range t.length).any fun i => q.ev (del t i))
theorem del_len {t : Cs} {i : Nat} (h : i < t.length) : (del t i).length + 1 = t.length := by
  unfold del
  rw [List.length_append, List.length_take, List.length_drop]
  omega
theorem del_okt {t : Cs} (h : okt t) (i : Nat) : okt (del t i) := fun c hc => by
  unfold del at hc
  rcases List.mem_append.mp hc with z | z
  · exact h c (List.mem_of_mem_take z)
  · exact h c (List.mem_of_mem_drop z)
theorem del_le {t : Cs} {i : Nat} : (del t i).length ≤ t.length := by
  unfold del
  rw [List.length_append, List.length_take, List.length_drop]
  omega
theorem cut_head {t : Cs} {i : Nat} (h : i ≤ t.length) : cut t none (some (i : Int)) = t.take i := by
  unfold cut
  rw [sIx_nat]
  simp [sIx, Nat.min_eq_left h]
theorem cut_tail {t : Cs} {i : Nat} (h : i ≤ t.length) : cut t (some (i : Int)) none = t.drop i := by
  unfold cut
  rw [sIx_nat, Nat.min_eq_left h]
  exact List.take_of_length_le (by simp [sIx])
section
variable {S : Store} {P : D → Store → Prop} {E : Nat → Store → Prop} {q : Q} {ρ : Env}
theorem gSlice_tx {t : Cs} {lo hi : Option Int} (h : t.length ≤ lim) : gSlice (.str t) lo hi S = .ok (.str (cut t lo hi)) S := by
  unfold gSlice
  simp only [res]
  rw [if_pos h]
/-- t[:i] + t[i + 1:] -/
theorem del_ok {t : Cs} {i j : Nat} {ρ : Env} {n : Nat} (h1 : ρ[i]? = some (some (.str t))) (h2 : ρ[j]? = some (some (.int (n : Int)))) (hn : n < t.length) (hl : t.length ≤ 2000000) :
    dBin gAdd (dSlice (dVar i) dNoPart (dPart (dVar j))) (dSlice (dVar i) (dPart (dBin gAdd (dVar j) (dC (.int 1)))) dNoPart) ρ S = .ok (.str (del t n)) S := by
  have hlim : t.length ≤ lim := by simp only [lim]; omega
  refine wp_to (w_bin (w_slice (w_var h1 (w_noPart (w_part (w_var h2 ⟨_, rfl, wp_eq (gSlice_tx hlim) ?_⟩))))))
  refine w_slice (w_var h1 (w_part (w_bin (w_var h2 (w_c (wp_eq rfl ⟨_, rfl, w_noPart (wp_eq (gSlice_tx hlim) ?_)⟩))))))
  rw [cut_head (by omega), show (n : Int) + 1 = ((n + 1 : Nat) : Int) by omega, cut_tail (by omega)]
  refine wp_eq (gAdd_str ?_) ⟨rfl, rfl⟩
  have := del_le (t := t) (i := n)
  unfold del at this
  rw [List.length_append] at this
  omega
theorem any_map_rng {t : Cs} {g : Cs → Bool} : ((List.range t.length).map fun i => g (del t i)).any id = (List.range t.length).any fun i => g (del t i) := by
  rw [List.any_map]
  rfl
theorem check_size_ok {n : Nat} {m : Int} (h : (n : Int) ≤ m) : P_check_size [.int n, .int m] S = .ok .non S := by
  refine wp_to ?_
  unfold P_check_size
  refine w_run (w_if (w_tnot (w_tv (w_call (w_all1 (w_var rfl (w_all1 (w_c (w_all1 (w_var rfl (w_all0 (wp_eq is_between_ok ⟨_, rfl, ?_⟩))))))))))))
  rw [decide_eq_true (by omega), decide_eq_true (by omega)]
  exact c_ff (w_nil ⟨rfl, rfl⟩)
theorem w_ext {a b : FE} (h : Wp (a ρ S) (fun x S1 => ∃ n ds, x = .loc n ∧ S1[n]? = some (.lst ds) ∧ Wp (b ρ S1) (fun y S2 => ∃ ds es, S2[n]? = some (.lst ds) ∧ y = .lst es ∧ ds.length + es.length ≤ lim ∧ P .non (S2.set n (.lst (ds ++ es)))) E) E) : Wp (dExt a b ρ S) P E :=
  wp_bind (h.imp fun x S1 ⟨n, ds, e, h1, h2⟩ => by
    subst e
    simp only [h1]
    refine wp_bind (h2.imp fun y S2 ⟨ds, es, h3, e, hl, h4⟩ => ?_)
    subst e
    simp only [h3]
    rw [if_pos hl]
    exact h4)
/-- xs.extend(..) -/
theorem w_sExt {S0 S : Store} {L M : List D} {b : FE} {i n : Nat} {G : FS} {PC : Ctl → Store → Prop} (h0 : App S0 S) (hv : ρ[i]? = some (some (.loc n))) (h1 : S0.length ≤ n) (hn : S[n]? = some (.lst L)) (h : Wp (b ρ S) (fun y S1 => y = .lst M ∧ S1 = S) E) (hl : L.length + M.length ≤ lim)
    (k : ∀ S', App S0 S' → S'[n]? = some (.lst (L ++ M)) → Wp (G ρ S') PC E) : Wp (sSeq (sExpr (dExt (dVar i) b)) G ρ S) PC E := by
  refine w_seq (w_expr (w_ext (w_var hv ⟨n, L, rfl, hn, h.imp fun y S1 e => ?_⟩)))
  obtain ⟨rfl, rfl⟩ := e
  refine ⟨L, M, hn, rfl, hl, nx_next (k _ ?_ ?_)⟩
  · refine app_of (fun i hi => ?_) (by rw [List.length_set]; obtain ⟨X, rfl, _⟩ := h0; simp) fun i mo hi e => ?_
    · rw [List.getElem?_set_ne (by omega)]
      obtain ⟨X, rfl, _⟩ := h0
      rw [List.getElem?_append_left hi]
    · by_cases z : n = i
      · subst z
        rw [List.getElem?_set_self (lt_of_get hn)] at e
        cases e; rfl
      · rw [List.getElem?_set_ne z] at e
        obtain ⟨X, rfl, hX⟩ := h0
        rw [List.getElem?_append_right hi] at e
        exact noCap_at hX e
  · rw [List.getElem?_set_self (lt_of_get hn)]
/-- [text + word for text in level for word in WORDS] -/
theorem comp2_texts {i j k : Nat} (hij : i ≠ j) (hi : i < ρ.length) (hj : j < ρ.length) : ∀ {T : List Cs}, (∀ t ∈ T, t.length ≤ 2000000) → comp2L (gName i) [i, j] (dC (.str [97, 98, 99, 100])) (gName j) [j] (dBin gAdd (dVar i) (dVar j)) ρ (T.map D.str) S = .ok ((nextT T).map D.str) S
  | [], _ => rfl
  | t :: T, h => by
    have ht := h t (by simp)
    have ih := comp2_texts (k := k) hij hi hj (T := T) fun u hu => h u (List.mem_cons_of_mem _ hu)
    rw [List.map_cons]
    unfold comp2L
    simp only [gName, Res.ok_noex, Res.ok_bind, dC]
    rw [if_pos (by decide)]
    have e0 : ∀ d : D, (((wipe (List.set (wipe ρ [i, j]) i (some (.str t))) [j]).set j (some d)))[i]? = some (some (.str t)) := fun d => by simp [wipe, List.getElem?_set, hij, Ne.symm hij, hi, hj]
    have e1 : ∀ d : D, (((wipe (List.set (wipe ρ [i, j]) i (some (.str t))) [j]).set j (some d)))[j]? = some (some d) := fun d => by simp [wipe, List.getElem?_set, hij, Ne.symm hij, hi, hj]
    rw [compL_pure (fun _ => true) (addS1 t)]
    · simp only [Res.ok_bind, ih, nextT_cons, filter_true]
      rw [List.map_append]
      rfl
    · intro d hd
      obtain ⟨c, rfl⟩ : ∃ c, d = .str [c] := by
        simp only [signs, List.map_cons, List.map_nil, List.mem_cons, List.not_mem_nil, or_false] at hd
        rcases hd with rfl | rfl | rfl | rfl <;> exact ⟨_, rfl⟩
      exact ⟨_, rfl, rfl, fun _ => dBin_v (e0 _) (e1 _) (gAdd_str (by simp [lim]; omega))⟩
/-- all texts shorter than n -/
def accT : Nat → List Cs
  | 0 => []
  | n + 1 => accT n ++ lvT n
theorem accT_all : ∀ n, accT (n + 1) = allT n
  | 0 => rfl
  | n + 1 => by rw [accT, accT_all n]; rfl
theorem accT_len : ∀ n, (accT n).length ≤ 2 * 4 ^ n
  | 0 => by simp [accT]
  | n + 1 => by
    have := accT_len n
    rw [accT, List.length_append, lvT_len, Nat.pow_succ]
    omega
theorem w_skip {a : FE} {d : D} {F : FS} {PC : Ctl → Store → Prop} (h : a ρ S = .ok d S) (k : Wp (F ρ S) PC E) : Wp (sSeq (sExpr a) F ρ S) PC E := w_seq (w_expr (wp_eq h (nx_next k)))
end
end WF


set_option linter.all false
set_option maxRecDepth 100000
set_option maxHeartbeats 4000000
/-! # MCount: count_found -/
namespace WF
abbrev CL := List (List Cs × Nat)
def encC (L : CL) : List (D × D) := L.map fun p => (encS p.1, .int (p.2 : Int))
def getC : CL → List Cs → Option Nat
  | [], _ => none
  | (k, m) :: r, s => if k = s then some m else getC r s
def setC : CL → List Cs → Nat → CL
  | [], s, v => [(s, v)]
  | (k, m) :: r, s, v => if k = s then (k, v) :: r else (k, m) :: setC r s v
/-- the states, each as often as it is counted -/
def expd (L : CL) : List (List Cs) := L.flatMap fun p => List.replicate p.2 p.1
theorem encS_kb {a b : List Cs} : (encS a).kb (encS b) = decide (a = b) := by
  by_cases h : a = b
  · subst h
    rw [okKey_kb encS_ok]
    simp
  · rw [decide_eq_false h]
    cases z : (encS a).kb (encS b) with
    | false => rfl
    | true => exact absurd (encS_inj (kb_eq z)) h
theorem getC_enc {s : List Cs} : ∀ L : CL, getKD (encC L) (encS s) = (getC L s).map fun m => .int (m : Int)
  | [] => rfl
  | (k, m) :: L => by
    show getKD ((encS k, .int (m : Int)) :: encC L) (encS s) = _
    unfold getKD getC
    rw [encS_kb, getC_enc L]
    by_cases h : k = s
    · simp [h]
    · simp [h]
theorem setC_enc {s : List Cs} {v : Nat} : ∀ L : CL, setKD (encC L) (encS s) (.int (v : Int)) = encC (setC L s v)
  | [] => rfl
  | (k, m) :: L => by
    show setKD ((encS k, .int (m : Int)) :: encC L) (encS s) _ = _
    unfold setKD setC
    rw [encS_kb, setC_enc L]
    by_cases h : k = s
    · simp [h, encC]
    · simp [h, encC]
theorem expd_set {s : List Cs} {m : Nat} : ∀ L : CL, (expd (setC L s ((getC L s).getD 0 + m))).Perm (expd L ++ List.replicate m s)
  | [] => by simp [getC, setC, expd]
  | (k, v) :: L => by
    unfold getC setC
    by_cases h : k = s
    · subst h
      rw [if_pos rfl, if_pos rfl]
      simp only [Option.getD_some, expd, List.flatMap_cons]
      rw [← List.replicate_append_replicate]
      rw [List.append_assoc, List.append_assoc]
      exact List.Perm.append_left _ List.perm_append_comm
    · rw [if_neg h, if_neg h]
      have ih := expd_set (s := s) (m := m) L
      simp only [expd, List.flatMap_cons, List.append_assoc] at ih ⊢
      exact ih.append_left _
theorem keys_set {s : List Cs} {v : Nat} : ∀ L : CL, ∀ x ∈ setC L s v, x.1 = s ∨ ∃ y ∈ L, y.1 = x.1
  | [], x, h => by
    simp [setC] at h
    exact .inl (by rw [h])
  | (k, m) :: L, x, h => by
    unfold setC at h
    by_cases e : k = s
    · rw [if_pos e] at h
      rcases List.mem_cons.mp h with z | z
      · exact .inl (by rw [z]; exact e)
      · exact .inr ⟨x, List.mem_cons_of_mem _ z, rfl⟩
    · rw [if_neg e] at h
      rcases List.mem_cons.mp h with z | z
      · exact .inr ⟨(k, m), by simp, by rw [z]⟩
      · rcases keys_set L x z with y | ⟨y, h1, h2⟩
        · exact .inl y
        · exact .inr ⟨y, List.mem_cons_of_mem _ h1, h2⟩
theorem nodup_set {s : List Cs} {v : Nat} : ∀ L : CL, (L.map (·.1)).Nodup → ((setC L s v).map (·.1)).Nodup
  | [], _ => by simp [setC]
  | (k, m) :: L, h => by
    rw [List.map_cons, List.nodup_cons] at h
    unfold setC
    by_cases e : k = s
    · rw [if_pos e, List.map_cons, List.nodup_cons]
      exact h
    · rw [if_neg e, List.map_cons, List.nodup_cons]
      refine ⟨fun z => ?_, nodup_set L h.2⟩
      obtain ⟨x, hx, he⟩ := List.mem_map.mp z
      rcases keys_set L x hx with y | ⟨y, h1, h2⟩
      · exact e (by rw [← y]; exact he.symm)
      · exact h.1 (List.mem_map.mpr ⟨y, h1, h2.trans he⟩)
/-- the counts of a level of texts -/
structure Cnt (sim : List Q) (M : List (List Cs)) (L : CL) : Prop where
  nd : (L.map (·.1)).Nodup
  of : ∀ p ∈ L, ∃ t, okt t ∧ p.1 = sts sim t
  cnt : (expd L).Perm M
theorem Cnt.nil {sim : List Q} : Cnt sim [] [] := ⟨by simp, by simp, by simp [expd]⟩
theorem Cnt.add {sim : List Q} {M : List (List Cs)} {L : CL} (c : Cnt sim M L) {t : Cs} (ht : okt t) (m : Nat) : Cnt sim (M ++ List.replicate m (sts sim t)) (setC L (sts sim t) ((getC L (sts sim t)).getD 0 + m)) := by
  refine ⟨nodup_set L c.nd, fun p hp => ?_, (expd_set L).trans (c.cnt.append_right _)⟩
  rcases keys_set L p hp with h | ⟨y, h1, h2⟩
  · exact ⟨t, ht, h⟩
  · obtain ⟨u, hu, e⟩ := c.of y h1
    exact ⟨u, hu, by rw [← h2, e]⟩
theorem Cnt.len {qs sim : List Q} (K : Rk qs sim) {M : List (List Cs)} {L : CL} (c : Cnt sim M L) : L.length ≤ 85 * 4 ^ sim.length := by
  have := sts_bound K.sims c.nd fun ps h => by
    obtain ⟨p, hp, rfl⟩ := List.mem_map.mp h
    exact c.of p hp
  rwa [List.length_map] at this
/-- the states of the next texts -/
def nextS (sim : List Q) (s : List Cs) : List (List Cs) := [97, 98, 99, 100].map fun c => stpA sim s c
theorem rep_next {sim : List Q} {s : List Cs} : ∀ m : Nat, ((List.replicate m s).flatMap (nextS sim)).Perm ([97, 98, 99, 100].flatMap fun c => List.replicate m (stpA sim s c))
  | 0 => by simp
  | m + 1 => by
    rw [List.replicate_succ, List.flatMap_cons]
    refine (List.Perm.append_left _ (rep_next m)).trans ?_
    simp only [nextS, List.map_cons, List.map_nil, List.flatMap_cons, List.flatMap_nil, List.append_nil, List.replicate_succ, List.cons_append, List.nil_append]
    rw [List.perm_iff_count]
    intro a
    simp only [List.count_cons, List.count_append]
    omega
theorem sts_next {sim : List Q} : ∀ T : List Cs, (nextT T).map (sts sim) = (T.map (sts sim)).flatMap (nextS sim)
  | [] => rfl
  | t :: T => by
    rw [nextT_cons, List.map_append, sts_next T]
    show _ = (sts sim t :: T.map (sts sim)).flatMap (nextS sim)
    rw [List.flatMap_cons]
    congr 1
    simp [nextS, sts_snoc]
/-- all pairs were looked at -/
theorem Cnt.next {sim : List Q} {T : List Cs} {L L' : CL} (c : Cnt sim (T.map (sts sim)) L) (c' : Cnt sim (L.flatMap fun p => [97, 98, 99, 100].flatMap fun a => List.replicate p.2 (stpA sim p.1 a)) L') : Cnt sim ((nextT T).map (sts sim)) L' := by
  refine ⟨c'.nd, c'.of, c'.cnt.trans ?_⟩
  rw [sts_next]
  refine List.Perm.trans ?_ (c.cnt.flatMap_right (nextS sim))
  unfold expd
  rw [List.flatMap_assoc]
  have : ∀ L : CL, (L.flatMap fun p => [97, 98, 99, 100].flatMap fun a => List.replicate p.2 (stpA sim p.1 a)).Perm (L.flatMap fun p => (List.replicate p.2 p.1).flatMap (nextS sim)) := fun L => by
    induction L with
    | nil => exact .refl _
    | cons p L ih =>
      rw [List.flatMap_cons, List.flatMap_cons]
      exact (rep_next p.2).symm.append ih
  exact this L
theorem sum_expd {f : List Cs → Bool} : ∀ L : CL, ((L.filter fun p => f p.1).map fun p => ((p.2 : Nat) : Int)).sum = (((expd L).countP f : Nat) : Int)
  | [] => rfl
  | (k, m) :: L => by
    have ih := sum_expd (f := f) L
    unfold expd at ih ⊢
    rw [List.flatMap_cons, List.countP_append]
    by_cases h : f k = true
    · rw [List.filter_cons_of_pos (by simpa using h), List.map_cons, List.sum_cons, ih]
      have : (List.replicate m k).countP f = m := by
        rw [List.countP_eq_length.mpr fun a ha => by rw [(List.mem_replicate.mp ha).2]; exact h]
        simp
      rw [this]
      simp
    · rw [List.filter_cons_of_neg (by simpa using h), ih]
      have : (List.replicate m k).countP f = 0 := List.countP_eq_zero.mpr fun a ha => by rw [(List.mem_replicate.mp ha).2]; exact h
      rw [this]
      simp
/-- how many texts of a length are found -/
def cntQ (q : Q) (n : Nat) : Nat := (lvT n).countP q.ev
section
variable {q : Q} {sim : List Q} {r : Nat} {S : Store} {P : D → Store → Prop} {E : Nat → Store → Prop} {ρ : Env}
theorem w_lockS {i n : Nat} {kvs : List (D × D)} {F : FS} {PC : Ctl → Store → Prop} (h1 : ρ[i]? = some (some (.loc n))) (h2 : S[n]? = some (.dict kvs)) (h : Wp (F ρ (S.set n (.frz kvs))) (fun c S1 => PC c (S1.set n (.dict kvs))) fun _ _ => False) : Wp (sLock i F ρ S) PC E := by
  unfold sLock
  simp only [h1, h2]
  exact wp_bind (wp_noex h)
theorem w_lockE {i n : Nat} {kvs : List (D × D)} {F : FE} (h1 : ρ[i]? = some (some (.loc n))) (h2 : S[n]? = some (.dict kvs)) (h : Wp (F ρ (S.set n (.frz kvs))) (fun c S1 => P c (S1.set n (.dict kvs))) fun _ _ => False) : Wp (dLock i F ρ S) P E := by
  unfold dLock
  simp only [h1, h2]
  exact wp_bind (wp_noex h)
theorem iFrz_ok {i n : Nat} {pr : Bool} {kvs : List (D × D)} (h1 : ρ[i]? = some (some (.loc n))) (h2 : S[n]? = some (.frz kvs)) : iFrz pr i ρ S = .ok (itD pr kvs, none) S := by
  unfold iFrz
  simp only [h1, h2]
theorem w_getOr {a b c : FE} (h : Wp (a ρ S) (fun x S1 => ∃ n kvs, x = .loc n ∧ S1[n]? = some (.dict kvs) ∧ Wp (b ρ S1) (fun y S2 => Wp (c ρ S2) (fun z S3 => ∃ kvs, S3[n]? = some (.dict kvs) ∧ y.okKey = true ∧ P ((getKD kvs y).getD z) S3) E) E) E) : Wp (dGetOr a b c ρ S) P E :=
  wp_bind (h.imp fun x S1 ⟨n, kvs, e, h1, h2⟩ => by
    subst e
    simp only [dictOf, h1]
    refine wp_bind (h2.imp fun y S2 h2 => wp_bind (h2.imp fun z S3 ⟨kvs, h3, h4, h5⟩ => ?_))
    simp only [h3]
    rw [if_pos h4]
    exact h5)
theorem itD_enc {L : CL} : itD true (encC L) = L.map fun p => .tup [encS p.1, .int (p.2 : Int)] := by simp [itD, encC]
theorem ints_sum {ns : List Int} : bSum (.lst (ns.map .int)) S = .ok (.int ns.sum) S := by
  have : intsOf (ns.map D.int) = some ns := by
    induction ns with
    | nil => rfl
    | cons n ns ih => simp [intsOf, ih]
  simp [bSum, lstOf, res, this]
open Classical in
/-- what a state tells -/
noncomputable def fS (sim : List Q) (q : Q) (s : List Cs) : Bool := decide (∃ t, okt t ∧ sts sim t = s ∧ q.ev t = true)
open Classical in
theorem fS_iff {s : List Cs} : fS sim q s = true ↔ ∃ t, okt t ∧ sts sim t = s ∧ q.ev t = true := by
  unfold fS
  exact decide_eq_true_iff
theorem fS_sts (hs : Sims sim) (hq : Subs sim q) {t : Cs} (ht : okt t) : fS sim q (sts sim t) = q.ev t := by
  rw [Bool.eq_iff_iff, fS_iff]
  constructor
  · rintro ⟨u, hu, h1, h2⟩
    rw [← ev_sts hs hu ht h1 hq]
    exact h2
  · exact fun e => ⟨t, ht, rfl, e⟩
open Classical in
noncomputable def kD (sim : List Q) (q : Q) (d : D) : Bool := match d with
  | .tup [x, _] => decide (∃ t, okt t ∧ encS (sts sim t) = x ∧ q.ev t = true)
  | _ => false
def vD (d : D) : D := match d with
  | .tup [_, v] => v
  | _ => .non
open Classical in
theorem kD_enc {s : List Cs} {m : Int} : kD sim q (.tup [encS s, .int m]) = fS sim q s := by
  rw [Bool.eq_iff_iff, fS_iff]
  unfold kD
  simp only
  rw [decide_eq_true_iff]
  refine exists_congr fun t => and_congr_right fun _ => and_congr_left fun _ => ?_
  exact ⟨fun h => encS_inj h, fun h => by rw [h]⟩
theorem cnt_list (L : CL) : ((itD true (encC L)).filter (kD sim q)).map vD = (((L.filter fun p => fS sim q p.1).map fun p => ((p.2 : Nat) : Int))).map .int := by
  rw [itD_enc, List.filter_map, List.map_map, List.map_map]
  congr 1
  congr 1
  funext p
  exact kD_enc
theorem cnt_sum (hs : Sims sim) (hq : Subs sim q) {n : Nat} {L : CL} (c : Cnt sim ((lvT n).map (sts sim)) L) : ((L.filter fun p => fS sim q p.1).map fun p => ((p.2 : Nat) : Int)).sum = (cntQ q n : Int) := by
  rw [sum_expd (f := fS sim q), c.cnt.countP_eq, List.countP_map]
  congr 1
  unfold cntQ
  refine List.countP_congr fun t ht => ?_
  rw [Function.comp_apply, fS_sts hs hq (mem_lvT.mp ht).1]
theorem count_found_ok {n : Nat} (hq : Qok q) (hn : n ≤ 30) (hS : noCap S = true) (k : ∀ S', App S S' → P (.int (cntQ q n : Int)) S') : Wp (P_count_found [q.enc, .int n] S) P E := by
  have hl := lvs3 hq.dep
  have hw1 : ∀ x ∈ [q], x.wf := fun x hx => by simp at hx; subst hx; exact hq.wf
  have hd1 : ∀ x ∈ [q], x.depth ≤ 3 := fun x hx => by simp at hx; subst hx; exact hq.dep
  have hl1 : lvsAll [q] ≤ 7 := by simp [lvsAll]; omega
  have K := rk_of hw1 hd1 hl1 (by simp)
  have hsub : Subs (addAll [] [q]) q := K.sub q (by simp)
  unfold P_count_found
  refine w_run (w_seq (w_expr (w_call (w_all1 (w_var rfl (w_all0 (wp_eq (check_q hq.wf hq.dep) (nx_next ?_))))))))
  have hcs : P_check_size [.int (n : Int), .int 30] S = .ok .non S := check_size_ok (by omega)
  simp only [startE, List.map_cons, List.map_nil, List.length_cons, List.length_nil, List.replicate, List.cons_append, List.nil_append, Nat.reduceAdd, Nat.reduceSub]
  with_reducible refine w_skip (d := .non) (by simp only [dCall, evalAll, dVar, dC, List.getElem?_cons_succ, List.getElem?_cons_zero, Res.ok_bind, hcs]) ?_
  refine w_seq (w_asg (w_make (w_all1 (w_lst (w_all1 (w_var rfl (w_all0 (w_all0 (wp_eq (init_ok (qs := [q]) hd1 hl1) ⟨rfl, w_gn (nx_next ?_)⟩)))))))) )
  generalize hsim : addAll [] [q] = sim at K hsub
  have l0 : (newRdr [q] S).length = S.length + 4 := by simp [newRdr]
  have hR0 : Rdr S.length [q] sim (newRdr [q] S) := hsim ▸ newRdr_ok
  have at0 : ∀ i, i < S.length → (newRdr [q] S)[i]? = S[i]? := fun i hi => by
    unfold newRdr
    rw [List.getElem?_append_left hi]
  generalize newRdr [q] S = S0 at l0 hR0 at0
  have app : ∀ S', Rdr S.length [q] sim S' → Frm S.length (S.length + 4) S0 S' → App S S' := fun S' hR hFr => by
    refine app_of (fun i hi => ?_) ?_ fun i mo hi e => ?_
    · rw [hFr.at_ i (by omega) (by omega) (by omega), at0 i hi]
    · have := hFr.le; omega
    · by_cases q2 : S.length + 4 ≤ i
      · exact hFr.cap i mo q2 e
      · have : i = S.length ∨ i = S.length + 1 ∨ i = S.length + 2 ∨ i = S.length + 3 := by omega
        rcases this with q3 | q3 | q3 | q3 <;> subst q3
        · rw [hR.inst] at e; cases e; rfl
        · rw [hR.simL] at e; cases e; rfl
        · obtain ⟨kvs, h1, _⟩ := hR.kn
          rw [h1] at e; cases e; rfl
        · obtain ⟨kvs, h1, _⟩ := hR.tl
          rw [h1] at e; cases e; rfl
  generalize hr : S.length = r at *
  simp only [List.set_cons_succ, List.set_cons_zero]
  have hN := pow4_le K.few
  refine w_seq (w_asg (w_dict1 (w_meth (w_var rfl ⟨r, _, rfl, hR0.inst, rfl, w_all0 (wp_eq (start_ok K hR0) (w_c ⟨encS_ok, w_gn (nx_next ?_)⟩))⟩))))
  simp only [List.set_cons_succ, List.set_cons_zero]
  have hF0 : Frm r (r + 4) S0 S0 := Frm.refl l0.symm
  refine w_seq (w_for (w_r1 (w_var rfl ⟨(n : Int), rfl, by omega, by omega, rfl, ?_⟩)))
  rw [Int.toNat_natCast]
  refine w_forL (fun ds ρ S1 => ∃ j l L x4 x5 x6 x7 x8 x9, j + ds.length = n ∧ ρ = [some q.enc, some (.int (n : Int)), some (.loc r), some (.loc l), x4, x5, x6, x7, x8, x9] ∧ Rdr r [q] sim S1 ∧ Frm r (r + 4) S0 S1 ∧ r + 4 ≤ l ∧ S1[l]? = some (.dict (encC L)) ∧ Cnt sim ((lvT j).map (sts sim)) L)
    ⟨0, S0.length, [(sts sim [], 1)], none, none, none, none, none, none, by simp [rngD], rfl, hR0.add, hF0.add rfl, by omega, by simp [encC], ⟨by simp, fun p hp => ⟨[], okt_nil, by rw [List.mem_singleton.mp hp]⟩, by simp [expd, lvT]⟩⟩ ?_ ?_
  · -- the sum
    rintro ρ S1 ⟨j, l, L, x4, x5, x6, x7, x8, x9, hj, rfl, hR, hF, hrl, hS1, hC⟩
    have hj' : j = n := by simpa using hj
    subst hj'
    have llt := lt_of_get hS1
    refine nx_next (w_ret (w_call (w_all1 ?_)))
    refine w_lockE (n := l) (kvs := encC L) rfl hS1 ?_
    have hget : (S1.set l (.frz (encC L)))[l]? = some (.frz (encC L)) := by rw [List.getElem?_set_self llt]
    have hlL : (itD true (encC L)).length ≤ lim := by
      rw [itD_enc, List.length_map]
      have := hC.len K
      simp only [lim]
      omega
    refine w_compI (ds := itD true (encC L)) (fun S' => Rdr r [q] sim S' ∧ RFr r (S1.set l (.frz (encC L))) S') (kD sim q) vD (iFrz_ok rfl hget) hlL ?_ ⟨hR.set (by omega), RFr.refl⟩ fun S2 h2 => ?_
    · intro d hd S2 h2
      rw [itD_enc] at hd
      obtain ⟨p, hp, rfl⟩ := List.mem_map.mp hd
      obtain ⟨t, ht, he⟩ := hC.of p hp
      refine w_gt rfl (w_ga1 (w_gn (w_ga1 (w_gn (w_ga0 ?_)))))
      rw [he]
      refine w_tv (w_bin (w_meth (w_var rfl ⟨r, _, rfl, h2.1.inst, rfl, w_all1 (w_var rfl (w_all0 ?_))⟩)))
      refine answers_ok K h2.1 ht fun S3 h3 f3 => w_c (wp_eq (a := .bl (q.ev t)) (S := S3) rfl ⟨_, rfl, ?_, fun _ => ?_, fun _ => ⟨h3, h2.2.trans f3⟩⟩)
      · rw [kD_enc, fS_sts K.sims hsub ht]
      · exact w_var rfl ⟨rfl, h3, h2.2.trans f3⟩
    · refine w_all0 (w_f1 ?_)
      rw [cnt_list]
      refine wp_eq ints_sum ?_
      rw [cnt_sum K.sims hsub hC]
      have hF2 : Frm r (r + 4) S0 S2 := (hF.set hrl rfl).rfr h2.2 (by omega)
      refine k _ (app _ (h2.1.set (by omega)) (hF2.set hrl rfl))
  -- a step
  rintro d ds ρ S1 ⟨j, l, L, x4, x5, x6, x7, x8, x9, hj, rfl, hR, hF, hrl, hS1, hC⟩
  rw [List.length_cons] at hj
  have llt := lt_of_get hS1
  refine w_gn ?_
  simp only [List.set_cons_succ, List.set_cons_zero]
  refine w_seq (w_asg (w_dict0 (w_gn (nx_next ?_))))
  simp only [List.set_cons_succ, List.set_cons_zero]
  have hS1' : (S1 ++ [MO.dict []])[l]? = some (.dict (encC L)) := by rw [List.getElem?_append_left llt]; exact hS1
  have hlL : L.length ≤ 85 * 4 ^ sim.length := hC.len K
  refine w_seq (w_lockS (n := l) (kvs := encC L) rfl hS1' ?_)
  have hget : ((S1 ++ [MO.dict []]).set l (.frz (encC L)))[l]? = some (.frz (encC L)) := by rw [List.getElem?_set_self (by simp; omega)]
  refine w_forV (fun es ρ S2 => ∃ A C L' x6 x7 x8 x9, L = A ++ C ∧ es = C.map (fun p => D.tup [encS p.1, .int (p.2 : Int)]) ∧ ρ = [some q.enc, some (.int (n : Int)), some (.loc r), some (.loc l), some d, some (.loc S1.length), x6, x7, x8, x9] ∧ Rdr r [q] sim S2 ∧ Frm r (r + 4) S0 S2 ∧
    S2[l]? = some (.frz (encC L)) ∧ S2[S1.length]? = some (.dict (encC L')) ∧ Cnt sim (A.flatMap fun p => [97, 98, 99, 100].flatMap fun a => List.replicate p.2 (stpA sim p.1 a)) L') (all := itD true (encC L)) (iFrz_ok rfl hget) ?_ ?_ ?_
  · refine ⟨[], L, [], x6, x7, x8, x9, rfl, itD_enc, rfl, hR.add.set (by omega), (hF.add rfl).set hrl rfl, hget, ?_, Cnt.nil⟩
    rw [List.getElem?_set_ne (by omega)]
    simp [encC]
  · -- the level's end
    rintro ρ S2 ⟨A, C, L', x6, x7, x8, x9, h1, h2, rfl, hR2, hF2, h3, h4, h5⟩
    have hC' : C = [] := by simpa using h2.symm
    subst hC'
    rw [List.append_nil] at h1
    subst h1
    refine nx_next (w_asg (w_var rfl (w_gn ?_)))
    simp only [List.set_cons_succ, List.set_cons_zero]
    refine ⟨j + 1, S1.length, L', some d, _, _, _, _, _, by omega, rfl, hR2.set (by omega), hF2.set hrl rfl, by omega, ?_, hC.next h5⟩
    rw [List.getElem?_set_ne (by omega)]
    exact h4
  -- a pair
  rintro e es ρ S2 ⟨A, C, L', x6, x7, x8, x9, h1, h2, rfl, hR2, hF2, h3, h4, h5⟩
  cases C with
  | nil => simp at h2
  | cons p C =>
  simp only [List.map_cons, List.cons.injEq] at h2
  obtain ⟨rfl, rfl⟩ := h2
  obtain ⟨t, ht, he⟩ := hC.of p (by rw [h1]; simp)
  refine w_gt rfl (w_ga1 (w_gn (w_ga1 (w_gn (w_ga0 ?_)))))
  simp only [List.set_cons_succ, List.set_cons_zero]
  refine w_wordsN (fun cs ρ S3 => ∃ as L' x8 x9, [97, 98, 99, 100] = as ++ cs ∧ ρ = [some q.enc, some (.int (n : Int)), some (.loc r), some (.loc l), some d, some (.loc S1.length), some (encS p.1), some (.int (p.2 : Int)), x8, x9] ∧ Rdr r [q] sim S3 ∧ Frm r (r + 4) S0 S3 ∧
    S3[l]? = some (.frz (encC L)) ∧ S3[S1.length]? = some (.dict (encC L')) ∧ Cnt sim ((A.flatMap fun p => [97, 98, 99, 100].flatMap fun a => List.replicate p.2 (stpA sim p.1 a)) ++ as.flatMap fun a => List.replicate p.2 (stpA sim p.1 a)) L') ?_ ?_ ?_
  · exact ⟨[], L', x8, x9, rfl, rfl, hR2, hF2, h3, h4, by simpa using h5⟩
  · rintro ρ S3 ⟨as, L', x8, x9, g1, rfl, g3, g4, g5, g6, g7⟩
    rw [List.append_nil] at g1
    subst g1
    refine ⟨A ++ [p], C, L', _, _, x8, x9, by rw [h1]; simp, rfl, rfl, g3, g4, g5, g6, ?_⟩
    rw [List.flatMap_append]
    simpa using g7
  rintro c cs ρ S3 ⟨as, L', x8, x9, g1, rfl, g3, g4, g5, g6, g7⟩
  have hc : okc c := by
    have : c ∈ [97, 98, 99, 100] := by rw [g1]; simp
    simpa [okc] using this
  simp only [List.set_cons_succ, List.set_cons_zero]
  refine w_seq (w_asg (w_meth (w_var rfl ⟨r, _, rfl, g3.inst, rfl, w_all1 (w_var rfl (w_all1 (w_var rfl (w_all0 ?_))))⟩)))
  rw [he]
  refine step_ok K g3 ht hc fun S4 b1 b2 => w_gn (nx_next ?_)
  simp only [List.set_cons_succ, List.set_cons_zero]
  have g5' : S4[l]? = some (.frz (encC L)) := by rw [b2.at_ _ (by omega) (by omega)]; exact g5
  have g6' : S4[S1.length]? = some (.dict (encC L')) := by rw [b2.at_ _ (by omega) (by omega)]; exact g6
  have g4' := g4.rfr b2 (by omega)
  have lt6 := lt_of_get g6'
  have hl' := g7.len K
  refine w_asg (w_bin (w_getOr (w_var rfl ⟨S1.length, _, rfl, g6', w_var rfl (w_c ⟨_, g6', encS_ok, ?_⟩)⟩)))
  rw [getC_enc]
  have eg : (Option.map (fun (m : Nat) => D.int (m : Int)) (getC L' (sts sim (t ++ [c])))).getD (.int 0) = .int (((getC L' (sts sim (t ++ [c]))).getD 0 : Nat) : Int) := by
    cases getC L' (sts sim (t ++ [c])) <;> rfl
  rw [eg]
  refine w_var rfl (wp_eq gAdd_ok (w_gsk (w_var rfl (w_var rfl (wp_eq (setKAt_ok g6' encS_ok (by simp only [encC, List.length_map, lim]; omega)) ?_)))))
  rw [show ((((getC L' (sts sim (t ++ [c]))).getD 0 : Nat) : Int) + (p.2 : Int)) = (((getC L' (sts sim (t ++ [c]))).getD 0 + p.2 : Nat) : Int) by omega, setC_enc]
  refine ⟨_, rfl, as ++ [c], setC L' (sts sim (t ++ [c])) ((getC L' (sts sim (t ++ [c]))).getD 0 + p.2), _, _, by rw [g1]; simp, rfl, b1.set (by omega), g4'.set (by omega) rfl, ?_, ?_, ?_⟩
  · rw [List.getElem?_set_ne (by omega)]
    exact g5'
  · rw [List.getElem?_set_self lt6]
  · have := g7.add (okt_snoc.mpr ⟨ht, hc⟩ : okt (t ++ [c])) p.2
    rw [List.flatMap_append, ← List.append_assoc]
    simpa [sts_snoc, he] using this
end
end WF


set_option linter.all false
set_option maxRecDepth 100000
set_option maxHeartbeats 4000000
/-! # MFset: the sets of words of the texts, in plain Lean -/
namespace WF
/-- the set of a text's words -/
def wset (t : Cs) : Cs := [97, 98, 99, 100].filter fun c => t.contains c
theorem mem_ws {t : Cs} {c : Nat} (ht : okt t) : c ∈ wset t ↔ c ∈ t := by
  unfold wset
  rw [List.mem_filter, List.contains_iff_mem]
  refine ⟨fun h => h.2, fun h => ⟨?_, h⟩⟩
  have := ht c h
  rcases this with e | e | e | e <;> subst e <;> simp
theorem ws_okt {t : Cs} : okt (wset t) := fun c hc => by
  have := (List.mem_filter.mp hc).1
  simpa [okc] using this
theorem ws_len {t : Cs} : (wset t).length ≤ 4 := by
  unfold wset
  exact Nat.le_trans (List.length_filter_le ..) (by decide)
def allW : List Cs := [[], [97], [98], [99], [100], [97, 98], [97, 99], [97, 100], [98, 99], [98, 100], [99, 100], [97, 98, 99], [97, 98, 100], [97, 99, 100], [98, 99, 100], [97, 98, 99, 100]]
theorem ws_all {t : Cs} : wset t ∈ allW := by
  unfold wset
  simp only [List.filter_cons, List.filter_nil]
  cases t.contains 97 <;> cases t.contains 98 <;> cases t.contains 99 <;> cases t.contains 100 <;> decide
theorem ws_up {t : Cs} : ((wset t).map fun c => [c]).Pairwise fun a b => ltCs a b = true := by
  rw [List.pairwise_map]
  unfold wset
  refine List.Pairwise.filter _ ?_
  decide
/-- a set of words and one more -/
theorem sortU_ws {t : Cs} {c : Nat} (ht : okt t) (hc : okc c) : sortU ((wset t ++ [c]).map fun c => [c]) = (wset (t ++ [c])).map fun c => [c] := by
  refine up_uniq (sortU_up _) ws_up fun z => ?_
  rw [sortU_mem, List.mem_map, List.mem_map]
  refine exists_congr fun a => and_congr_left fun _ => ?_
  rw [List.mem_append, mem_ws ht, mem_ws (okt_snoc.mpr ⟨ht, hc⟩), List.mem_append]
theorem ws_ext {t u : Cs} {c : Nat} (ht : okt t) (hu : okt u) (hc : okc c) (h : wset t = wset u) : wset (t ++ [c]) = wset (u ++ [c]) := by
  have e : (wset (t ++ [c])).map (fun c => [c]) = (wset (u ++ [c])).map fun c => [c] := by rw [← sortU_ws ht hc, ← sortU_ws hu hc, h]
  exact (List.map_inj_right fun a b h => by simpa using h).mp e
theorem ws_nil : wset [] = [] := rfl
abbrev KW2 := List Cs × Cs
def kap (sim : List Q) (t : Cs) : KW2 := (sts sim t, wset t)
def encK (k : KW2) : D := .tup [encS k.1, .str k.2]
theorem encK_inj {a b : KW2} (h : encK a = encK b) : a = b := by
  simp only [encK, D.tup.injEq, List.cons.injEq, D.str.injEq, and_true] at h
  exact Prod.ext (encS_inj h.1) h.2
theorem encK_key {k : KW2} : (encK k).isKey = true := by simp [encK, D.isKey, D.areKeys, encS_key]
theorem encK_ok {k : KW2} : (encK k).okKey = true := by
  have h2 : (encS k.1).depth = 1 := by simp [encS, D.depth, depths_strs']
  simp [encK, D.okKey, D.areKeys, D.isKey, encS_key, D.depths, h2, D.depth]
theorem kap_ext {sim : List Q} {t u : Cs} {c : Nat} (ht : okt t) (hu : okt u) (hc : okc c) (h : kap sim t = kap sim u) : kap sim (t ++ [c]) = kap sim (u ++ [c]) := by
  obtain ⟨h1, h2⟩ := Prod.ext_iff.mp h
  exact Prod.ext (sts_ext h1 [c]) (ws_ext ht hu hc h2)
/-- the texts that were met first -/
structure Fs (sim : List Q) (k : Nat) (T L : List Cs) : Prop where
  ok : ∀ t ∈ L, okt t ∧ t.length ≤ k
  nd : (L.map (kap sim)).Nodup
  all : ∀ u, okt u → u.length ≤ k → ∃ t ∈ L, kap sim t = kap sim u
  sub : ∀ t ∈ T, t ∈ L ∧ t.length = k
  top : ∀ t ∈ L, t.length = k → t ∈ T
/-- within a level: G, the next texts that were looked at; M, those that were kept -/
structure Fm (sim : List Q) (k : Nat) (L G M : List Cs) : Prop where
  ok : ∀ t ∈ M, okt t ∧ t.length = k + 1
  nd : ((L ++ M).map (kap sim)).Nodup
  cov : ∀ g ∈ G, ∃ t ∈ L ++ M, kap sim t = kap sim g
section
variable {sim : List Q} {k : Nat} {T L G M : List Cs} {g : Cs}
theorem Fs.start (f : Fs sim k T L) : Fm sim k L [] [] := ⟨by simp, by simpa using f.nd, by simp⟩
theorem Fm.old (m : Fm sim k L G M) (h : kap sim g ∈ (L ++ M).map (kap sim)) : Fm sim k L (G ++ [g]) M :=
  ⟨m.ok, m.nd, fun x hx => by
    rcases List.mem_append.mp hx with z | z
    · exact m.cov x z
    · rw [List.mem_singleton.mp z]
      obtain ⟨t, h1, h2⟩ := List.mem_map.mp h
      exact ⟨t, h1, h2⟩⟩
theorem Fm.new (m : Fm sim k L G M) (hg : okt g ∧ g.length = k + 1) (h : kap sim g ∉ (L ++ M).map (kap sim)) : Fm sim k L (G ++ [g]) (M ++ [g]) := by
  refine ⟨fun t ht => ?_, ?_, fun x hx => ?_⟩
  · rcases List.mem_append.mp ht with z | z
    · exact m.ok t z
    · rw [List.mem_singleton.mp z]; exact hg
  · rw [← List.append_assoc, List.map_append, List.nodup_append]
    exact ⟨m.nd, by simp, fun a ha b hb e => h (by rw [List.map_singleton, List.mem_singleton] at hb; rw [← hb, ← e]; exact ha)⟩
  · rw [← List.append_assoc]
    rcases List.mem_append.mp hx with z | z
    · obtain ⟨t, h1, h2⟩ := m.cov x z
      exact ⟨t, List.mem_append_left _ h1, h2⟩
    · exact ⟨g, by simp, by rw [List.mem_singleton.mp z]⟩
theorem Fm.next (f : Fs sim k T L) (m : Fm sim k L (nextT T) M) : Fs sim (k + 1) M (L ++ M) := by
  refine ⟨fun t ht => ?_, m.nd, fun u hu hl => ?_, fun t ht => ⟨List.mem_append_right _ ht, (m.ok t ht).2⟩, fun t ht hl => ?_⟩
  · rcases List.mem_append.mp ht with z | z
    · have := f.ok t z
      exact ⟨this.1, by omega⟩
    · have := m.ok t z
      exact ⟨this.1, by omega⟩
  · have old : ∀ u, okt u → u.length ≤ k → ∃ t ∈ L ++ M, kap sim t = kap sim u := fun u hu hl => by
      obtain ⟨t, h1, h2⟩ := f.all u hu hl
      exact ⟨t, List.mem_append_left _ h1, h2⟩
    by_cases e : u.length ≤ k
    · exact old u hu e
    · rcases List.eq_nil_or_concat u with z | ⟨u0, c, z⟩
      · rw [z] at e; simp at e
      · rw [List.concat_eq_append] at z
        subst z
        obtain ⟨h0, hc⟩ := okt_snoc.mp hu
        have hl0 : u0.length = k := by simp at hl e; omega
        obtain ⟨t, h1, h2⟩ := f.all u0 h0 (by omega)
        have ht := f.ok t h1
        have e2 := kap_ext ht.1 h0 hc h2
        by_cases q : t.length = k
        · obtain ⟨x, h3, h4⟩ := m.cov (t ++ [c]) (mem_nextT.mpr ⟨t, f.top t h1 q, c, hc, rfl⟩)
          exact ⟨x, h3, h4.trans e2⟩
        · obtain ⟨x, h3, h4⟩ := old (t ++ [c]) (okt_snoc.mpr ⟨ht.1, hc⟩) (by rw [List.length_append]; simp; omega)
          exact ⟨x, h3, h4.trans e2⟩
  · rcases List.mem_append.mp ht with z | z
    · have := (f.ok t z).2
      omega
    · exact z
/-- nothing is left: all texts were met -/
theorem Fs.done (f : Fs sim k [] L) : ∀ u, okt u → ∃ t ∈ L, okt t ∧ kap sim t = kap sim u := by
  refine snoc_ind (fun h => ?_) fun u c ih h => ?_
  · obtain ⟨t, h1, h2⟩ := f.all [] h (by simp)
    exact ⟨t, h1, (f.ok t h1).1, h2⟩
  · obtain ⟨h0, hc⟩ := okt_snoc.mp h
    obtain ⟨t, h1, h2, h3⟩ := ih h0
    have ht := f.ok t h1
    have e2 := kap_ext ht.1 h0 hc h3
    have : t.length ≠ k := fun z => by
      have := f.top t h1 z
      simp at this
    obtain ⟨x, h4, h5⟩ := f.all (t ++ [c]) (okt_snoc.mpr ⟨ht.1, hc⟩) (by rw [List.length_append]; simp; omega)
    exact ⟨x, h4, (f.ok x h4).1, h5.trans e2⟩
theorem Fs.zero : Fs sim 0 [[]] [[]] :=
  ⟨fun t ht => by rw [List.mem_singleton.mp ht]; exact ⟨okt_nil, by simp⟩, by simp, fun u _ hl => ⟨[], by simp, by rw [List.length_eq_zero_iff.mp (by omega : u.length = 0)]⟩, fun t ht => by rw [List.mem_singleton.mp ht]; simp, fun t ht _ => ht⟩
theorem kap_bound (hs : Sims sim) {l : List Cs} (nd : (l.map (kap sim)).Nodup) (h : ∀ t ∈ l, okt t) : l.length ≤ 16 * (85 * 4 ^ sim.length) := by
  have e : (l.map (kap sim)).length ≤ ((allS sim).flatMap fun s => allW.map fun w => (s, w)).length := by
    refine nd.length_le_of_subset fun x hx => ?_
    obtain ⟨t, ht, rfl⟩ := List.mem_map.mp hx
    exact List.mem_flatMap.mpr ⟨sts sim t, mem_allS hs (h t ht), List.mem_map.mpr ⟨wset t, ws_all, rfl⟩⟩
  have e2 : ((allS sim).flatMap fun s => allW.map fun w => (s, w)).length = 16 * (85 * 4 ^ sim.length) := by
    rw [← allS_len]
    generalize allS sim = k
    induction k with
    | nil => rfl
    | cons x k ih =>
      rw [List.flatMap_cons, List.length_append, ih, List.length_map, List.length_cons]
      have : allW.length = 16 := rfl
      omega
  rwa [List.length_map, e2] at e
/-- the dict of the texts that were met -/
def encF (sim : List Q) (L : List Cs) : List (D × D) := L.map fun t => (encK (kap sim t), .str t)
theorem encK_kb {a b : KW2} : (encK a).kb (encK b) = decide (a = b) := by
  by_cases h : a = b
  · subst h
    rw [okKey_kb encK_ok]
    simp
  · rw [decide_eq_false h]
    cases z : (encK a).kb (encK b) with
    | false => rfl
    | true => exact absurd (encK_inj (kb_eq z)) h
theorem encF_none {k : KW2} : ∀ L : List Cs, k ∉ L.map (kap sim) → getKD (encF sim L) (encK k) = none
  | [], _ => rfl
  | t :: L, h => by
    show getKD ((encK (kap sim t), .str t) :: encF sim L) (encK k) = none
    unfold getKD
    rw [encK_kb, if_neg (by simp; intro z; exact h (by rw [← z]; simp)), encF_none L fun z => h (List.mem_cons_of_mem _ z)]
theorem encF_some : ∀ {L : List Cs}, (L.map (kap sim)).Nodup → g ∈ L → getKD (encF sim L) (encK (kap sim g)) = some (.str g)
  | [], _, h => by simp at h
  | t :: L, nd, h => by
    show getKD ((encK (kap sim t), .str t) :: encF sim L) (encK (kap sim g)) = _
    rw [List.map_cons, List.nodup_cons] at nd
    unfold getKD
    rw [encK_kb]
    by_cases e : kap sim t = kap sim g
    · rw [if_pos (by simpa using e)]
      rcases List.mem_cons.mp h with z | z
      · rw [z]
      · exact absurd (List.mem_map.mpr ⟨g, z, e.symm⟩) nd.1
    · rw [if_neg (by simpa using e)]
      rcases List.mem_cons.mp h with z | z
      · exact absurd (by rw [z]) e
      · exact encF_some nd.2 z
theorem encF_is {k : KW2} {L : List Cs} (nd : (L.map (kap sim)).Nodup) : (getKD (encF sim L) (encK k)).isSome = decide (k ∈ L.map (kap sim)) := by
  by_cases h : k ∈ L.map (kap sim)
  · obtain ⟨t, h1, rfl⟩ := List.mem_map.mp h
    rw [encF_some nd h1, decide_eq_true h]
    rfl
  · rw [encF_none L h, decide_eq_false h]
    rfl
theorem plains_keys : ∀ T : List Cs, D.plains (T.map fun t => encK (kap sim t)) = true
  | [] => rfl
  | t :: T => by simp only [List.map_cons, D.plains, key_plain encK_key, plains_keys T, Bool.and_self]
end
end WF


set_option linter.all false
set_option maxRecDepth 100000
set_option maxHeartbeats 4000000
/-! # MSets: found_sets, sets_found, needed_words, useless_words -/
namespace WF
section
variable {q : Q} {sim : List Q} {r : Nat} {S : Store} {P : D → Store → Prop} {E : Nat → Store → Prop} {ρ : Env}
theorem textsOf_str {t : Cs} : bSortSet (.str t) S = if (sortU (t.map fun c => [c])).length < 4095 then .ok (.lst ((sortU (t.map fun c => [c])).map D.str)) S else .un := rfl
theorem signs_map (t : Cs) : signs t = (t.map fun c => [c]).map D.str := by
  unfold signs
  rw [List.map_map]
  rfl
/-- "".join(sorted(set(some + word))) -/
theorem next_set {t : Cs} {c : Nat} {a b : FE} (ht : okt t) (hc : okc c) (ha : a ρ S = .ok (.str (wset t)) S) (hb : b ρ S = .ok (.str [c]) S) :
    dStrM bJoin (dC (.str [])) (dCall (f1 bSortSet) [dBin gAdd a b]) ρ S = .ok (.str (wset (t ++ [c]))) S := by
  have hl := ws_len (t := t)
  have hl2 := ws_len (t := t ++ [c])
  have e1 : dBin gAdd a b ρ S = .ok (.str (wset t ++ [c])) S := by
    unfold dBin
    rw [ha, Res.ok_bind, hb, Res.ok_bind]
    exact gAdd_str (by simp [lim]; omega)
  have e2 : dCall (f1 bSortSet) [dBin gAdd a b] ρ S = .ok (.lst (signs (wset (t ++ [c])))) S := by
    refine wp_to (w_call (w_all1 (wp_eq e1 (w_all0 (w_f1 ?_)))))
    rw [textsOf_str, sortU_ws ht hc, if_pos (by rw [List.length_map]; omega), ← signs_map]
    exact ⟨rfl, rfl⟩
  refine wp_to (w_strM (w_c ⟨[], rfl, wp_eq e2 (wp_eq (join_signs (by simp only [lim]; omega)) ⟨rfl, rfl⟩)⟩))
theorem found_sets_ok (hq : Qok q) (hS : noCap S = true)
    (k : ∀ (sim : List Q) (S0 S' : Store) (m : Nat) (L : List Cs), Rk [q] sim → Rdr S.length [q] sim S' → Frm S.length (S.length + 4) S0 S' → (∀ S2, Rdr S.length [q] sim S2 → Frm S.length (S.length + 4) S0 S2 → App S S2) → S.length + 4 ≤ m → S'[m]? = some (.dict (encF sim L)) →
      (∀ t ∈ L, okt t) → (L.map (kap sim)).Nodup → L.length < 1000000 → (∀ u, okt u → ∃ t ∈ L, okt t ∧ kap sim t = kap sim u) → P (.tup [.loc m, .loc S.length]) S') : Wp (P_found_sets [q.enc] S) P E := by
  have hl := lvs3 hq.dep
  have hw1 : ∀ x ∈ [q], x.wf := fun x hx => by simp at hx; subst hx; exact hq.wf
  have hd1 : ∀ x ∈ [q], x.depth ≤ 3 := fun x hx => by simp at hx; subst hx; exact hq.dep
  have hl1 : lvsAll [q] ≤ 7 := by simp [lvsAll]; omega
  have K := rk_of hw1 hd1 hl1 (by simp)
  have hsub : Subs (addAll [] [q]) q := K.sub q (by simp)
  have hsl : (addAll [] [q]).length ≤ 4 := Nat.le_trans addAll_len (by simp [lvsAll]; omega)
  unfold P_found_sets
  refine w_run ?_
  refine w_seq (w_asg (w_make (w_all1 (w_lst (w_all1 (w_var rfl (w_all0 (w_all0 (wp_eq (init_ok (qs := [q]) hd1 hl1) ⟨rfl, w_gn (nx_next ?_)⟩)))))))))
  generalize hsim : addAll [] [q] = sim at K hsub hsl
  have l0 : (newRdr [q] S).length = S.length + 4 := by simp [newRdr]
  have hR0 : Rdr S.length [q] sim (newRdr [q] S) := hsim ▸ newRdr_ok
  have at0 : ∀ i, i < S.length → (newRdr [q] S)[i]? = S[i]? := fun i hi => by
    unfold newRdr
    rw [List.getElem?_append_left hi]
  generalize newRdr [q] S = S0 at l0 hR0 at0
  have app : ∀ S', Rdr S.length [q] sim S' → Frm S.length (S.length + 4) S0 S' → App S S' := fun S' hR hFr => by
    refine app_of (fun i hi => ?_) ?_ fun i mo hi e => ?_
    · rw [hFr.at_ i (by omega) (by omega) (by omega), at0 i hi]
    · have := hFr.le; omega
    · by_cases q2 : S.length + 4 ≤ i
      · exact hFr.cap i mo q2 e
      · have : i = S.length ∨ i = S.length + 1 ∨ i = S.length + 2 ∨ i = S.length + 3 := by omega
        rcases this with q3 | q3 | q3 | q3 <;> subst q3
        · rw [hR.inst] at e; cases e; rfl
        · rw [hR.simL] at e; cases e; rfl
        · obtain ⟨kvs, h1, _⟩ := hR.kn
          rw [h1] at e; cases e; rfl
        · obtain ⟨kvs, h1, _⟩ := hR.tl
          rw [h1] at e; cases e; rfl
  have k' := k sim S0
  clear k
  generalize hr : S.length = r at *
  simp only [startE, List.map_cons, List.map_nil, List.length_cons, List.length_nil, List.replicate, List.cons_append, List.nil_append, Nat.reduceAdd, Nat.reduceSub, List.set_cons_succ, List.set_cons_zero]
  have hF0 : Frm r (r + 4) S0 S0 := Frm.refl l0.symm
  have hB : ∀ {l : List Cs}, (l.map (kap sim)).Nodup → (∀ t ∈ l, okt t) → l.length ≤ 348160 := fun nd h => by
    have h1 := kap_bound K.sims nd h
    have h2 : 4 ^ sim.length ≤ 256 := Nat.le_trans (Nat.pow_le_pow_right (by decide) hsl) (by decide)
    omega
  refine w_seq (w_asg (w_tup (w_all1 (w_meth (w_var rfl ⟨r, _, rfl, hR0.inst, rfl, w_all0 (wp_eq (start_ok K hR0) (w_all1 (w_c (w_all0 (w_gn (nx_next ?_))))))⟩)))))
  simp only [List.set_cons_succ, List.set_cons_zero]
  refine w_seq (w_par (w_all1 (w_dict1 (w_var rfl (w_c ⟨encK_ok (k := kap sim []), w_all1 (w_lst (w_all1 (w_var rfl (w_all0 (w_all0 (nx_next ?_))))))⟩)))))
  simp only [setAll, List.set_cons_succ, List.set_cons_zero]
  -- the loop over the levels
  refine w_seq (w_while (I := fun mm ρ S => ∃ k T L lvd x5 x6 x7 x8 x9, mm + k = 348161 ∧ ρ = [some q.enc, some (.loc r), some (encK (kap sim [])), some (.loc (r + 4)), some lvd, x5, x6, x7, x8, x9] ∧ Rdr r [q] sim S ∧ Frm r (r + 4) S0 S ∧ lvAt S lvd (T.map fun t => encK (kap sim t)) ∧ (∀ l, lvd = .loc l → r + 4 < l) ∧
    S[r + 4]? = some (.dict (encF sim L)) ∧ Fs sim k T L ∧ k ≤ L.length ∧ (T ≠ [] → k + 1 ≤ L.length)) (m := 348161) (show _ < 16777216 by omega) ?_ ?_)
  · refine ⟨0, [[]], [[]], .lst [encK (kap sim [])], none, none, none, none, none, by omega, ?_, hR0.add, hF0.add rfl, .inl rfl, fun l z => (by cases z), ?_, Fs.zero, by simp, by simp⟩
    · rw [l0]; rfl
    · rw [← l0]; simp [encF, encK, kap, ws_nil]
  rintro mm ρ S1 ⟨k, T, L, lvd, x5, x6, x7, x8, x9, hmm, rfl, hR, hF, hlv, hll, hm, hL, hk, hk1⟩
  have hkn : L.length ≤ 348160 := hB hL.nd fun t ht => (hL.ok t ht).1
  refine w_tv (w_bin (w_var rfl (w_lst (w_all0 (wp_eq (gNe_lv hlv (plains_keys T)) ⟨_, rfl, fun hT => ?_, fun hT => ?_⟩)))))
  rotate_left
  · have : T = [] := by simpa using hT
    subst this
    exact nx_next (w_ret (w_tup (w_all1 (w_var rfl (w_all1 (w_var rfl (w_all0 (k' S1 (r + 4) L K hR hF app (Nat.le_refl _) hm (fun t ht => (hL.ok t ht).1) hL.nd (by omega) hL.done))))))))
  have hTne : T ≠ [] := by
    intro z; rw [z] at hT; simp at hT
  have hk2 := hk1 hTne
  have mlt : r + 4 < S1.length := lt_of_get hm
  refine w_seq (w_asg (w_new (w_all0 (w_gn (nx_next ?_)))))
  simp only [List.set_cons_succ, List.set_cons_zero]
  -- the loop over a level
  have hlv' : lvAt (S1 ++ [.lst []]) lvd (T.map fun t => encK (kap sim t)) := by
    rcases hlv with z | ⟨l, z, hz⟩
    · exact .inl z
    · exact .inr ⟨l, z, by rw [List.getElem?_append_left (lt_of_get hz)]; exact hz⟩
  have hll2 : ∀ l, lvd = .loc l → r + 4 < l ∧ l < S1.length := fun l z => by
    refine ⟨hll l z, ?_⟩
    rcases hlv with y | ⟨l', y, hz⟩
    · rw [z] at y; cases y
    · rw [z] at y; cases y; exact lt_of_get hz
  refine w_seq (w_forA (fun ds ρ S' => ∃ A C M x6 x7 x8 x9, T = A ++ C ∧ ds = C.map (fun t => encK (kap sim t)) ∧ ρ = [some q.enc, some (.loc r), some (encK (kap sim [])), some (.loc (r + 4)), some lvd, some (.loc S1.length), x6, x7, x8, x9] ∧
    Rdr r [q] sim S' ∧ Frm r (r + 4) S0 S' ∧ lvAt S' lvd (T.map fun t => encK (kap sim t)) ∧ S'[r + 4]? = some (.dict (encF sim (L ++ M))) ∧ S'[S1.length]? = some (.lst (M.map fun t => encK (kap sim t))) ∧ Fm sim k L (nextT A) M) (i := 4) (d := lvd) (all := T.map fun t => encK (kap sim t)) rfl hlv' ?_ ?_ ?_ ?_)
  · refine ⟨[], T, [], x6, x7, x8, x9, rfl, rfl, rfl, hR.add, hF.add rfl, hlv', ?_, ?_, hL.start⟩
    · rw [List.getElem?_append_left mlt, List.append_nil]; exact hm
    · simp
  · rintro ds ρ S' ⟨A, C, M, y6, y7, y8, y9, h1, h2, h3, h4, h5, h6, h7⟩
    exact h6
  · -- the level's end
    rintro ρ S' ⟨A, C, M, y6, y7, y8, y9, h1, h2, rfl, hR', hF', h6, h7, h8, h9⟩
    have hC : C = [] := by simpa using h2.symm
    subst hC
    rw [List.append_nil] at h1
    subst h1
    have hN := h9.next hL
    refine nx_next (w_asg (w_var rfl (w_gn ?_)))
    simp only [List.set_cons_succ, List.set_cons_zero]
    have hkn' : (L ++ M).length ≤ 348160 := hB hN.nd fun t ht => (hN.ok t ht).1
    refine ⟨mm - 1, by omega, k + 1, M, L ++ M, .loc S1.length, some (.loc S1.length), y6, y7, y8, y9, by omega, rfl, hR', hF', .inr ⟨_, rfl, h8⟩, fun l z => (by cases z; exact mlt), h7, hN, by rw [List.length_append]; omega, fun hM => ?_⟩
    have : M.length ≠ 0 := fun z => hM (List.length_eq_zero_iff.mp z)
    rw [List.length_append]
    omega
  -- one key of the level
  rintro d ds ρ S' ⟨A, C, M, y6, y7, y8, y9, h1, h2, rfl, hR', hF', h6, h7, h8, h9⟩
  cases C with
  | nil => simp at h2
  | cons t C =>
  simp only [List.map_cons, List.cons.injEq] at h2
  obtain ⟨rfl, rfl⟩ := h2
  have htT : t ∈ T := by rw [h1]; simp
  obtain ⟨htL, htl⟩ := hL.sub t htT
  have hto := (hL.ok t htL).1
  refine w_gt rfl (w_ga1 (w_gn (w_ga1 (w_gn (w_ga0 ?_)))))
  simp only [List.set_cons_succ, List.set_cons_zero]
  -- its four next texts
  refine w_wordsN (fun cs ρ S2 => ∃ es M x8 x9, [97, 98, 99, 100] = es ++ cs ∧ ρ = [some q.enc, some (.loc r), some (encK (kap sim [])), some (.loc (r + 4)), some lvd, some (.loc S1.length), some (encS (sts sim t)), some (.str (wset t)), x8, x9] ∧
    Rdr r [q] sim S2 ∧ Frm r (r + 4) S0 S2 ∧ lvAt S2 lvd (T.map fun t => encK (kap sim t)) ∧ S2[r + 4]? = some (.dict (encF sim (L ++ M))) ∧ S2[S1.length]? = some (.lst (M.map fun t => encK (kap sim t))) ∧ Fm sim k L (nextT A ++ es.map fun c => t ++ [c]) M) ?_ ?_ ?_
  · exact ⟨[], M, y8, y9, rfl, rfl, hR', hF', h6, h7, h8, by simpa using h9⟩
  · rintro ρ S2 ⟨es, M, z8, z9, g1, rfl, g3, g4, g5, g6, g7, g8⟩
    rw [List.append_nil] at g1
    subst g1
    refine ⟨A ++ [t], C, M, _, _, z8, z9, by rw [h1]; simp, rfl, rfl, g3, g4, g5, g6, g7, ?_⟩
    have : nextT (A ++ [t]) = nextT A ++ [97, 98, 99, 100].map fun c => t ++ [c] := by simp [nextT]
    rw [this]; exact g8
  rintro c cs ρ S2 ⟨es, M, z8, z9, g1, rfl, a1, a2, a3, a4, a5, a6⟩
  have hc : okc c := by
    have : c ∈ [97, 98, 99, 100] := by rw [g1]; simp
    simpa [okc] using this
  simp only [List.set_cons_succ, List.set_cons_zero]
  refine w_seq (w_asg (w_tup (w_all1 (w_meth (w_var rfl ⟨r, _, rfl, a1.inst, rfl, w_all1 (w_var rfl (w_all1 (w_var rfl (w_all0 ?_))))⟩)))))
  refine step_ok K a1 hto hc fun S3 b1 b2 => w_all1 (wp_eq (next_set hto hc rfl rfl) (w_all0 (w_gn (nx_next ?_))))
  simp only [List.set_cons_succ, List.set_cons_zero]
  rw [show D.tup [encS (sts sim (t ++ [c])), D.str (wset (t ++ [c]))] = encK (kap sim (t ++ [c])) from rfl]
  have a4' : S3[r + 4]? = some (.dict (encF sim (L ++ M))) := by rw [b2.at_ _ (by omega) (by omega)]; exact a4
  have a5' : S3[S1.length]? = some (.lst (M.map fun t => encK (kap sim t))) := by rw [b2.at_ _ (by omega) (by omega)]; exact a5
  have a3' : lvAt S3 lvd (T.map fun t => encK (kap sim t)) := by
    rcases a3 with z | ⟨l, z, hz⟩
    · exact .inl z
    · have := hll2 l z
      exact .inr ⟨l, z, by rw [b2.at_ _ (by omega) (by omega)]; exact hz⟩
  have hg : okt (t ++ [c]) ∧ (t ++ [c]).length = k + 1 := ⟨okt_snoc.mpr ⟨hto, hc⟩, by simp [htl]⟩
  have hLM : (L ++ M).length ≤ 348160 := hB a6.nd fun u hu => by
    rcases List.mem_append.mp hu with z | z
    · exact (hL.ok u z).1
    · exact (a6.ok u z).1
  have hLM2 : M.length ≤ 348160 := by rw [List.length_append] at hLM; omega
  have e1 : (nextT A ++ (es ++ [c]).map fun c => t ++ [c]) = (nextT A ++ es.map fun c => t ++ [c]) ++ [t ++ [c]] := by simp
  refine w_if (w_tv (w_bin (w_var rfl (w_var rfl (wp_eq (gKNotIn_ok a4' (encK_ok (k := kap sim (t ++ [c])))) ⟨_, rfl, fun hb => ?_, fun hb => ?_⟩)))))
  · have hb : (!(getKD (encF sim (L ++ M)) (encK (kap sim (t ++ [c])))).isSome) = true := hb
    rw [encF_is a6.nd] at hb
    have hnew : kap sim (t ++ [c]) ∉ (L ++ M).map (kap sim) := by simpa using hb
    refine w_seq (w_asg (w_bin (w_bin (w_var rfl (w_tup (w_all1 (w_var rfl (w_all1 (w_var rfl (w_all0 (wp_eq (gKIdx_ok (a := encK (kap sim t)) a4' encK_ok (encF_some a6.nd (List.mem_append_left _ htL))) (w_var rfl (wp_eq (gAdd_str (by simp [lim]; omega)) ?_)))))))))))))
    refine w_gsk (w_var rfl (w_var rfl (wp_eq (setKAt_ok a4' (encK_ok (k := kap sim (t ++ [c]))) (by simp only [encF, List.length_map, lim]; omega)) (nx_next ?_))))
    rw [setKD_new (encF_none _ hnew), show encF sim (L ++ M) ++ [(encK (kap sim (t ++ [c])), D.str (t ++ [c]))] = encF sim (L ++ (M ++ [t ++ [c]])) by simp [encF]]
    have s5 : (S3.set (r + 4) (.dict (encF sim (L ++ (M ++ [t ++ [c]])))))[S1.length]? = some (.lst (M.map fun t => encK (kap sim t))) := by rw [List.getElem?_set_ne (by omega)]; exact a5'
    refine w_expr (w_app (w_var rfl ⟨S1.length, _, rfl, s5, w_var rfl ⟨_, s5, by rw [List.length_map]; simp only [lim]; omega, ?_⟩⟩))
    refine ⟨_, rfl, es ++ [c], M ++ [t ++ [c]], _, _, by rw [g1]; simp, rfl, (b1.set (by omega)).set (by omega), ((a2.rfr b2 (by omega)).set (Nat.le_refl _) rfl).set (by omega) rfl, ?_, ?_, ?_, ?_⟩
    · rcases a3' with z | ⟨l, z, hz⟩
      · exact .inl z
      · have := hll2 l z
        exact .inr ⟨l, z, by rw [List.getElem?_set_ne (by omega), List.getElem?_set_ne (by omega)]; exact hz⟩
    · rw [List.getElem?_set_ne (by omega), List.getElem?_set_self (lt_of_get a4')]
    · rw [List.getElem?_set_self (by rw [List.length_set]; exact lt_of_get a5'), List.map_append]
      rfl
    · rw [e1]
      exact a6.new hg hnew
  · have hb : (!(getKD (encF sim (L ++ M)) (encK (kap sim (t ++ [c])))).isSome) = false := hb
    rw [encF_is a6.nd] at hb
    have hold : kap sim (t ++ [c]) ∈ (L ++ M).map (kap sim) := by
      rw [Bool.not_eq_false'] at hb
      exact of_decide_eq_true hb
    refine w_nil ⟨_, rfl, es ++ [c], M, _, _, by rw [g1]; simp, rfl, b1, a2.rfr b2 (by omega), a3', a4', a5', ?_⟩
    rw [e1]
    exact a6.old hold
/-- the rows of sets of found texts -/
def rowsOf (q : Q) (L : List Cs) : List Cs := sortU ((L.filter q.ev).map wset)
open Classical in
noncomputable def kF (sim : List Q) (q : Q) (d : D) : Bool := match d with
  | .tup [x, _] => decide (∃ t, okt t ∧ encS (sts sim t) = x ∧ q.ev t = true)
  | _ => false
open Classical in
theorem kF_enc (hs : Sims sim) (hq : Subs sim q) {t : Cs} (ht : okt t) : kF sim q (encK (kap sim t)) = q.ev t := by
  rw [← fS_sts hs hq ht, Bool.eq_iff_iff, fS_iff]
  unfold kF encK kap
  simp only
  rw [decide_eq_true_iff]
  refine exists_congr fun u => and_congr_right fun _ => and_congr_left fun _ => ?_
  exact ⟨fun h => encS_inj h, fun h => by rw [h]⟩
theorem itD_encF {L : List Cs} : itD false (encF sim L) = L.map fun t => encK (kap sim t) := by simp [itD, encF]
theorem fset_list (hs : Sims sim) (hq : Subs sim q) : ∀ L : List Cs, (∀ t ∈ L, okt t) → ((L.map fun t => encK (kap sim t)).filter (kF sim q)).map vD = ((L.filter q.ev).map wset).map D.str
  | [], _ => rfl
  | t :: L, h => by
    have ih := fset_list hs hq L fun u hu => h u (List.mem_cons_of_mem _ hu)
    rw [List.map_cons, List.filter_cons, List.filter_cons, kF_enc hs hq (h t (by simp))]
    split
    · rw [List.map_cons, ih]
      rfl
    · exact ih
theorem strsOf_mapW : ∀ ts : List Cs, strsOf (ts.map D.str) = some ts
  | [] => rfl
  | t :: ts => by
    show (strsOf (ts.map D.str)).map (t :: ·) = _
    rw [strsOf_mapW ts]
    rfl
theorem up_nodup {l : List Cs} (h : l.Pairwise fun a b => ltCs a b = true) : l.Nodup := by
  refine List.Pairwise.imp (fun {a b} hab e => ?_) h
  subst e
  rw [lts_irrefl] at hab
  cases hab
theorem rows_len {L : List Cs} : (rowsOf q L).length ≤ 16 := by
  have : (rowsOf q L).length ≤ allW.length := by
    refine (up_nodup (sortU_up _)).length_le_of_subset fun x hx => ?_
    obtain ⟨t, _, rfl⟩ := List.mem_map.mp (sortU_mem.mp hx)
    exact ws_all
  exact this
theorem bSortSet_list {ts : List Cs} (h : (sortU ts).length ≤ 16) : bSortSet (.lst (ts.map D.str)) S = .ok (.lst ((sortU ts).map D.str)) S := by
  unfold bSortSet
  simp only [res, textsOf, strsOf_mapW]
  rw [if_pos (by omega)]
theorem sets_found_ok (hq : Qok q) (hS : noCap S = true) (k : ∀ (rows : List Cs) (S' : Store), App S S' → rows.length ≤ 16 → (∀ w, w ∈ rows ↔ ∃ u, okt u ∧ q.ev u = true ∧ wset u = w) → P (.lst (rows.map D.str)) S') : Wp (P_sets_found [q.enc] S) P E := by
  unfold P_sets_found
  refine w_run (w_seq (w_asg (w_call (w_all1 (w_var rfl (w_all0 ?_))))))
  refine found_sets_ok hq hS fun sim S0 S' m L K hR hF app hm hS' hok hnd hlen hall => ?_
  have hsub : Subs sim q := K.sub q (by simp)
  refine w_gt rfl (w_ga1 (w_gn (w_ga1 (w_gn (w_ga0 (nx_next ?_))))))
  simp only [startE, List.map_cons, List.map_nil, List.length_cons, List.length_nil, List.replicate, List.cons_append, List.nil_append, Nat.reduceAdd, Nat.reduceSub, List.set_cons_succ, List.set_cons_zero]
  have mlt := lt_of_get hS'
  refine w_ret (w_call (w_all1 ?_))
  refine w_lockE (n := m) (kvs := encF sim L) rfl hS' ?_
  have hget : (S'.set m (.frz (encF sim L)))[m]? = some (.frz (encF sim L)) := by rw [List.getElem?_set_self mlt]
  refine w_compI (ds := itD false (encF sim L)) (fun S2 => Rdr S.length [q] sim S2 ∧ RFr S.length (S'.set m (.frz (encF sim L))) S2) (kF sim q) vD (iFrz_ok rfl hget) ?_ ?_ ⟨hR.set (by omega), RFr.refl⟩ fun S2 h2 => ?_
  · rw [itD_encF, List.length_map]
    simp only [lim]
    omega
  · intro d hd S2 h2
    rw [itD_encF] at hd
    obtain ⟨t, ht, rfl⟩ := List.mem_map.mp hd
    have hto := hok t ht
    refine w_gt rfl (w_ga1 (w_gn (w_ga1 (w_gn (w_ga0 ?_)))))
    refine w_tv (w_bin (w_meth (w_var rfl ⟨S.length, _, rfl, h2.1.inst, rfl, w_all1 (w_var rfl (w_all0 ?_))⟩)))
    refine answers_ok (t := t) K h2.1 hto fun S3 h3 f3 => w_c (wp_eq (a := .bl (q.ev t)) (S := S3) rfl ⟨_, rfl, ?_, fun _ => ?_, fun _ => ⟨h3, h2.2.trans f3⟩⟩)
    · rw [kF_enc K.sims hsub hto]
    · exact w_var rfl ⟨rfl, h3, h2.2.trans f3⟩
  · refine w_all0 (w_f1 ?_)
    rw [itD_encF, fset_list K.sims hsub L hok]
    refine wp_eq (bSortSet_list rows_len) ?_
    have hF2 : Frm S.length (S.length + 4) S0 S2 := (hF.set hm rfl).rfr h2.2 (by omega)
    refine k (rowsOf q L) _ (app _ (h2.1.set (by omega)) (hF2.set hm rfl)) rows_len fun w => ?_
    unfold rowsOf
    rw [sortU_mem, List.mem_map]
    constructor
    · rintro ⟨t, ht, rfl⟩
      obtain ⟨h3, h4⟩ := List.mem_filter.mp ht
      exact ⟨t, hok t h3, h4, rfl⟩
    · rintro ⟨u, hu, hev, rfl⟩
      obtain ⟨t, h3, h4, h5⟩ := hall u hu
      obtain ⟨h6, h7⟩ := Prod.ext_iff.mp h5
      exact ⟨t, List.mem_filter.mpr ⟨h3, by rw [ev_sts K.sims h4 hu h6 hsub]; exact hev⟩, h7⟩
open Classical in
noncomputable def needB (q : Q) (c : Nat) : Bool := decide (∀ u, okt u → q.ev u = true → c ∈ u)
open Classical in
noncomputable def uselB (q : Q) (c : Nat) : Bool := decide (∀ u, okt u → q.ev u = true → c ∉ u)
open Classical in
theorem needB_iff {c : Nat} : needB q c = true ↔ ∀ u, okt u → q.ev u = true → c ∈ u := by unfold needB; exact decide_eq_true_iff
open Classical in
theorem uselB_iff {c : Nat} : uselB q c = true ↔ ∀ u, okt u → q.ev u = true → c ∉ u := by unfold uselB; exact decide_eq_true_iff
noncomputable def needQ (q : Q) : Cs := [97, 98, 99, 100].filter (needB q)
noncomputable def uselQ (q : Q) : Cs := [97, 98, 99, 100].filter (uselB q)
theorem need_rows {rows : List Cs} (h : ∀ w, w ∈ rows ↔ ∃ u, okt u ∧ q.ev u = true ∧ wset u = w) (c : Nat) : (rows.map fun w => w.contains c).all id = needB q c := by
  rw [Bool.eq_iff_iff, needB_iff, List.all_map, List.all_eq_true]
  constructor
  · intro k u hu hev
    have := k (wset u) ((h _).mpr ⟨u, hu, hev, rfl⟩)
    exact (mem_ws hu).mp (List.contains_iff_mem.mp this)
  · intro k w hw
    obtain ⟨u, hu, hev, rfl⟩ := (h w).mp hw
    exact List.contains_iff_mem.mpr ((mem_ws hu).mpr (k u hu hev))
theorem usel_rows {rows : List Cs} (h : ∀ w, w ∈ rows ↔ ∃ u, okt u ∧ q.ev u = true ∧ wset u = w) (c : Nat) : (!(rows.map fun w => w.contains c).any id) = uselB q c := by
  rw [Bool.eq_iff_iff, uselB_iff, List.any_map, Bool.not_eq_true', List.any_eq_false]
  constructor
  · intro k u hu hev hc
    exact k (wset u) ((h _).mpr ⟨u, hu, hev, rfl⟩) (List.contains_iff_mem.mpr ((mem_ws hu).mpr hc))
  · intro k w hw hc
    obtain ⟨u, hu, hev, rfl⟩ := (h w).mp hw
    exact k u hu hev ((mem_ws hu).mp (List.contains_iff_mem.mp hc))
/-- [word in row for row in rows] -/
theorem in_rows {rows : List Cs} {c i j k : Nat} (hl : rows.length ≤ lim) (hi : ρ[i]? = some (some (.lst (rows.map D.str)))) (hj : ρ[j]? = some (some (.str [c]))) (hk : k < ρ.length) (hkj : k ≠ j) :
    dComp (iVal (dVar i)) (gName k) [k] tYes (dBin gIn (dVar j) (dVar k)) ρ S = .ok (.lst ((rows.map fun w => w.contains c).map D.bl)) S := by
  rw [comp_pure (ds := rows.map D.str) (fun _ => true) (fun d => match d with | .str w => .bl (w.contains c) | _ => .non) (by simp only [iVal, dVar, hi, Res.ok_bind]) (by simpa using hl) ?_]
  · rw [filter_true, List.map_map, List.map_map]
    rfl
  · intro d hd
    obtain ⟨w, _, rfl⟩ := List.mem_map.mp hd
    refine ⟨_, rfl, rfl, fun _ => ?_⟩
    have e0 : ((wipe ρ [k]).set k (some (.str w)))[j]? = some (some (.str [c])) := by simp [wipe, List.getElem?_set, hkj, hj]
    have e1 : ((wipe ρ [k]).set k (some (.str w)))[k]? = some (some (.str w)) := by simp [wipe, hk]
    exact dBin_v e0 e1 gIn_str
theorem signs_filter {f : Nat → Bool} : ∀ l : List Nat, ((signs l).filter fun d => match d with | .str [c] => f c | _ => false) = signs (l.filter f)
  | [] => rfl
  | c :: l => by
    have ih := signs_filter (f := f) l
    unfold signs at ih ⊢
    rw [List.map_cons, List.filter_cons, List.filter_cons, ih]
    dsimp only
    split <;> rfl
theorem words_filter {tt : FT} {k : Nat} (f : Nat → Bool) (hk : k < ρ.length) (h : ∀ c ∈ [97, 98, 99, 100], tt ((wipe ρ [k]).set k (some (.str [c]))) S = .ok (f c) S) :
    dStrM bJoin (dC (.str [])) (dComp (iVal (dC (.str [97, 98, 99, 100]))) (gName k) [k] tt (dVar k)) ρ S = .ok (.str ([97, 98, 99, 100].filter f)) S := by
  have e : dComp (iVal (dC (.str [97, 98, 99, 100]))) (gName k) [k] tt (dVar k) ρ S = .ok (.lst (signs ([97, 98, 99, 100].filter f))) S := by
    rw [comp_pure (ds := signs [97, 98, 99, 100]) (fun d => match d with | .str [c] => f c | _ => false) id rfl (by simp [signs, lim]) ?_]
    · rw [List.map_id, signs_filter]
    · intro d hd
      obtain ⟨c, hc, rfl⟩ : ∃ c ∈ [97, 98, 99, 100], d = .str [c] := by
        unfold signs at hd
        obtain ⟨c, hc, rfl⟩ := List.mem_map.mp hd
        exact ⟨c, hc, rfl⟩
      have e1 : ((wipe ρ [k]).set k (some (.str [c])))[k]? = some (some (.str [c])) := by simp [wipe, hk]
      exact ⟨_, rfl, h c hc, fun _ => by simp only [dVar, e1]; rfl⟩
  have hl : ([97, 98, 99, 100].filter f).length ≤ 4 := Nat.le_trans (List.length_filter_le ..) (by decide)
  exact wp_to (w_strM (w_c ⟨[], rfl, wp_eq e (wp_eq (join_signs (by simp only [lim]; omega)) ⟨rfl, rfl⟩)⟩))
theorem needed_ok (hq : Qok q) (hS : noCap S = true) (k : ∀ S', App S S' → P (.str (needQ q)) S') : Wp (P_needed_words [q.enc] S) P E := by
  unfold P_needed_words
  refine w_run (w_seq (w_expr (w_call (w_all1 (w_var rfl (w_all0 (wp_eq (check_q hq.wf hq.dep) (nx_next ?_))))))))
  simp only [startE, List.map_cons, List.map_nil, List.length_cons, List.length_nil, List.replicate, List.cons_append, List.nil_append, Nat.reduceAdd, Nat.reduceSub]
  refine w_seq (w_asg (w_call (w_all1 (w_var rfl (w_all0 ?_)))))
  refine sets_found_ok hq hS fun rows S' a hl hr => w_gn (nx_next ?_)
  simp only [List.set_cons_succ, List.set_cons_zero]
  refine w_ret (wp_eq (words_filter (needB q) (by simp) fun c hc => ?_) (k S' a))
  refine wp_to (w_tv (w_call (w_all1 (wp_eq (in_rows (rows := rows) (c := c) (i := 1) (j := 2) (by simp only [lim]; omega) rfl rfl (by simp [wipe]) (by decide)) (w_all0 (w_f1 (wp_eq bAll_ok ⟨_, rfl, ?_, rfl⟩)))))))
  exact need_rows hr c
theorem useless_ok (hq : Qok q) (hS : noCap S = true) (k : ∀ S', App S S' → P (.str (uselQ q)) S') : Wp (P_useless_words [q.enc] S) P E := by
  unfold P_useless_words
  refine w_run (w_seq (w_expr (w_call (w_all1 (w_var rfl (w_all0 (wp_eq (check_q hq.wf hq.dep) (nx_next ?_))))))))
  simp only [startE, List.map_cons, List.map_nil, List.length_cons, List.length_nil, List.replicate, List.cons_append, List.nil_append, Nat.reduceAdd, Nat.reduceSub]
  refine w_seq (w_asg (w_call (w_all1 (w_var rfl (w_all0 ?_)))))
  refine sets_found_ok hq hS fun rows S' a hl hr => w_gn (nx_next ?_)
  simp only [List.set_cons_succ, List.set_cons_zero]
  refine w_ret (wp_eq (words_filter (uselB q) (by simp) fun c hc => ?_) (k S' a))
  refine wp_to (w_tnot (w_tv (w_call (w_all1 (wp_eq (in_rows (rows := rows) (c := c) (i := 1) (j := 2) (by simp only [lim]; omega) rfl rfl (by simp [wipe]) (by decide)) (w_all0 (w_f1 (wp_eq bAny_ok ⟨_, rfl, ?_, rfl⟩))))))))
  exact usel_rows hr c
end
end WF


set_option linter.all false
set_option maxRecDepth 100000
set_option maxHeartbeats 4000000
/-! # MMin: the least of two told texts -/
namespace WF
theorem ltCs_lt : ∀ {a b : Cs}, ltCs a b = decide (a < b)
  | [], [] => rfl
  | [], _ :: _ => rfl
  | _ :: _, [] => rfl
  | x :: a, y :: b => by
    unfold ltCs
    rw [ltCs_lt (a := a) (b := b)]
    by_cases h : x < y
    · rw [if_pos h, eq_comm, decide_eq_true_iff]
      exact List.cons_lt_cons_iff.mpr (.inl h)
    · rw [if_neg h]
      by_cases e : x = y
      · subst e
        rw [if_pos rfl]
        congr 1
        rw [List.cons_lt_cons_iff]
        simp
      · rw [if_neg e, eq_comm, decide_eq_false_iff_not, List.cons_lt_cons_iff]
        rintro (z | ⟨z, _⟩)
        · exact h z
        · exact e z
/-- a text with its length -/
def sized (t : Cs) : D := .tup [.int (t.length : Int), .str t]
theorem sized_lt {t u : Cs} : (sized t).lt (sized u) = true ↔ ahead t u := by
  have e : (sized t).lt (sized u) = (decide ((t.length : Int) < u.length) || (!decide ((u.length : Int) < t.length) && (decide (t < u) || (!decide (u < t) && false)))) := by
    simp [sized, D.lt, D.toks, D.tokss, toksLt, tokLt]
  rw [e, ← ltCs_lt, ← ltCs_lt]
  simp only [Bool.or_eq_true, decide_eq_true_eq, Bool.and_eq_true, Bool.not_eq_true', decide_eq_false_iff_not, Bool.and_false, Bool.or_false]
  unfold ahead
  constructor
  · rintro (h | ⟨h1, h2⟩)
    · exact .inl (by omega)
    · by_cases z : t.length < u.length
      · exact .inl z
      · exact .inr ⟨by omega, h2⟩
  · rintro (h | ⟨h1, h2⟩)
    · exact .inl (by omega)
    · exact .inr ⟨by omega, h2⟩
theorem ltCs_tot {a b : Cs} (h : a.length = b.length) : ltCs a b = true ∨ a = b ∨ ltCs b a = true := ltCs_total h
theorem FirstOf.join {g h f : Cs → Bool} (hf : ∀ t, okt t → f t = (g t || h t)) {t u : Cs} (ht : okt t) (hu : okt u) (g1 : g t = true) (g2 : ∀ x, okt x → ahead x t → g x = false) (h1 : h u = true) (h2 : ∀ x, okt x → ahead x u → h x = false) (lt : t.length ≤ 2000000) (lu : u.length ≤ 2000000) :
    FirstOf f (.str (if (sized u).lt (sized t) = true then u else t)) := by
  by_cases e : (sized u).lt (sized t) = true
  · rw [if_pos e]
    have hut := sized_lt.mp e
    refine .inr ⟨u, rfl, hu, by rw [hf u hu, h1, Bool.or_true], fun x hx ha => ?_, lu⟩
    rw [hf x hx, h2 x hx ha, Bool.or_false]
    refine g2 x hx ?_
    rcases ha with ha | ⟨ha, hb⟩
    · rcases hut with hc | ⟨hc, hd⟩
      · exact .inl (by omega)
      · exact .inl (by omega)
    · rcases hut with hc | ⟨hc, hd⟩
      · exact .inl (by omega)
      · exact .inr ⟨by omega, ltCs_trans hb hd⟩
  · rw [if_neg e]
    have hut : ¬ ahead u t := fun z => e (sized_lt.mpr z)
    refine .inr ⟨t, rfl, ht, by rw [hf t ht, g1, Bool.true_or], fun x hx ha => ?_, lt⟩
    rw [hf x hx, g2 x hx ha, Bool.false_or]
    cases z : h x with
    | false => rfl
    | true =>
      exfalso
      rcases ahead_total x u with q | q | q
      · rw [h2 x hx q] at z; cases z
      · subst q; exact hut ha
      · refine hut ?_
        rcases q with q | ⟨q, q2⟩
        · rcases ha with ha | ⟨ha, hb⟩
          · exact .inl (by omega)
          · exact .inl (by omega)
        · rcases ha with ha | ⟨ha, hb⟩
          · exact .inl (by omega)
          · exact .inr ⟨by omega, ltCs_trans q2 hb⟩
section
variable {S : Store}
theorem plain_sized (t : Cs) : (sized t).plain = true := rfl
theorem alike_sized (t u : Cs) : (sized t).alike (sized u) = true := rfl
theorem min2_ok {t u : Cs} : bMinL (.lst [sized t, sized u]) S = .ok (sized (if (sized u).lt (sized t) = true then u else t)) S := by
  have : bMinL (.lst [sized t, sized u]) S = .ok (minOf (sized t) [sized u]) S := by
    simp [bMinL, lstOf, res, D.plains, plain_sized, alike_sized, D.depths, sized, D.depth, D.alike, D.alikes, D.plain]
  rw [this]
  simp only [minOf, List.foldl_cons, List.foldl_nil]
  split <;> rfl
theorem min1_ok {t : Cs} : bMinL (.lst [sized t]) S = .ok (sized t) S := by
  simp [bMinL, lstOf, res, D.plains, D.depths, sized, D.depth, D.alike, D.alikes, D.plain, minOf]
theorem idx1_sized {t : Cs} : gIdx (sized t) (.int 1) S = .ok (.str t) S := rfl
end
end WF


set_option linter.all false
set_option maxRecDepth 100000
set_option maxHeartbeats 4000000
/-! # MSmall: a question of two simple ones that finds a text finds a short one -/
namespace WF
/-- the shortest text that a simple question finds -/
def wit : Q → Cs
  | .word c | .begin c | .end_ c => [c]
  | .row s => s
  | .near v w _ | .before v w _ => [v, w]
  | .often c n => List.replicate n c
  | _ => []
/-- neither the beginning nor the end is asked -/
def Q.mid : Q → Prop
  | .begin _ | .end_ _ => False
  | _ => True
theorem clo_ctx {t a b : Cs} {v w g : Nat} (h : clo t v w g = true) : clo (a ++ t ++ b) v w g = true := by
  obtain ⟨i, j, h1, h2, h3, h4⟩ := clo_iff.mp h
  have k : ∀ {i v : Nat}, t[i]? = some v → (a ++ t ++ b)[a.length + i]? = some v := fun {i v} e => by
    rw [List.append_assoc, List.getElem?_append_right (by omega), Nat.add_sub_cancel_left, List.getElem?_append_left (lt_of_get e)]
    exact e
  exact clo_iff.mpr ⟨a.length + i, a.length + j, k h1, k h2, by omega, by omega⟩
theorem sub_ctx {t s a b : Cs} (hs : s ≠ []) (h : subIn s t = true) : subIn s (a ++ t ++ b) = true := by
  obtain ⟨x, y, rfl⟩ := (sub_mid hs).mp h
  exact (sub_mid hs).mpr ⟨a ++ x, y ++ b, by simp⟩
theorem ev_ctx {q : Q} {t : Cs} (hw : q.wf) (hs : q.simple) (hm : q.mid) (h : q.ev t = true) (a b : Cs) : q.ev (a ++ t ++ b) = true := by
  cases q with
  | word c => exact sub_ctx (by simp) h
  | row s => exact sub_ctx (by intro z; subst z; exact absurd hw.2.1 (by decide)) h
  | near v w g =>
    simp only [Q.ev, Bool.or_eq_true] at h ⊢
    exact h.imp clo_ctx clo_ctx
  | before v w g => exact clo_ctx h
  | often c n =>
    simp only [Q.ev, decide_eq_true_eq, List.count_append] at h ⊢
    omega
  | _ => first | exact hm.elim | exact hs.elim
theorem wit_ev {q : Q} (hw : q.wf) (hs : q.simple) : q.ev (wit q) = true := by
  cases q with
  | word c => simp [Q.ev, wit, subIn_one]
  | begin c => simp [Q.ev, wit, cut0]
  | end_ c => simp [Q.ev, wit, cutE]
  | row s => exact (sub_mid (by intro z; subst z; exact absurd hw.2.1 (by decide))).mpr ⟨[], [], by simp [wit]⟩
  | near v w g =>
    have : clo [v, w] v w g = true := clo_iff.mpr ⟨0, 1, rfl, rfl, by omega, by omega⟩
    simp [Q.ev, wit, this]
  | before v w g => exact clo_iff.mpr ⟨0, 1, rfl, rfl, by omega, by omega⟩
  | often c n => simp [Q.ev, wit]
  | _ => exact hs.elim
theorem wit_ok {q : Q} (hw : q.wf) (hs : q.simple) : okt (wit q) ∧ (wit q).length ≤ 3 := by
  have one : ∀ {c : Nat}, okc c → okt [c] := fun h c hc => by simp at hc; subst hc; exact h
  have two : ∀ {v w : Nat}, okc v → okc w → okt [v, w] := fun h k c hc => by
    simp at hc
    rcases hc with rfl | rfl
    · exact h
    · exact k
  cases q with
  | word c => exact ⟨one hw, by simp [wit]⟩
  | begin c => exact ⟨one hw, by simp [wit]⟩
  | end_ c => exact ⟨one hw, by simp [wit]⟩
  | row s => exact ⟨hw.1, hw.2.2⟩
  | near v w g => exact ⟨two hw.1 hw.2.1, by simp [wit]⟩
  | before v w g => exact ⟨two hw.1 hw.2.1, by simp [wit]⟩
  | often c n =>
    refine ⟨fun x hx => ?_, by simp [wit]; exact hw.2.2⟩
    simp only [wit, List.mem_replicate] at hx
    rw [hx.2]
    exact hw.1
  | _ => exact hs.elim
theorem ev_empty {q : Q} (hw : q.wf) (hs : q.simple) : q.ev [] = false := by
  cases q with
  | word c => rfl
  | begin c => rfl
  | end_ c => rfl
  | row s =>
    have : s ≠ [] := by intro z; subst z; exact absurd hw.2.1 (by decide)
    cases s with
    | nil => exact absurd rfl this
    | cons c s => rfl
  | near v w g => rfl
  | before v w g => rfl
  | often c n =>
    have h2 : 2 ≤ n := hw.2.1
    simp [Q.ev]
    omega
  | _ => exact hs.elim
theorem app_okt {a b : Cs} (h : okt a) (k : okt b) : okt (a ++ b) := fun c hc => (List.mem_append.mp hc).elim (h c) (k c)
/-- two simple questions, both true of some text -/
theorem both_small {p q : Q} (hp : p.wf) (sp : p.simple) (hq : q.wf) (sq : q.simple) {t : Cs} (h1 : p.ev t = true) (h2 : q.ev t = true) : ∃ u, okt u ∧ u.length ≤ 6 ∧ p.ev u = true ∧ q.ev u = true := by
  have cat : ∀ {p q : Q}, p.wf → p.simple → q.wf → q.simple → p.mid → q.mid → ∃ u, okt u ∧ u.length ≤ 6 ∧ p.ev u = true ∧ q.ev u = true := fun {p q} hp sp hq sq mp mq => by
    obtain ⟨a1, a2⟩ := wit_ok hp sp
    obtain ⟨b1, b2⟩ := wit_ok hq sq
    refine ⟨wit p ++ wit q, app_okt a1 b1, by rw [List.length_append]; omega, ?_, ?_⟩
    · have := ev_ctx hp sp mp (wit_ev hp sp) [] (wit q)
      simpa using this
    · have := ev_ctx hq sq mq (wit_ev hq sq) (wit p) []
      simpa using this
  have beg : ∀ {v : Nat} {q : Q}, okc v → q.wf → q.simple → q.mid → ∃ u, okt u ∧ u.length ≤ 6 ∧ (Q.begin v).ev u = true ∧ q.ev u = true := fun {v q} hv hq sq mq => by
    obtain ⟨b1, b2⟩ := wit_ok hq sq
    refine ⟨v :: wit q, app_okt (a := [v]) (wit_ok (q := .begin v) hv trivial).1 b1, by rw [List.length_cons]; omega, ?_, ?_⟩
    · simp [Q.ev, cut0]
    · have := ev_ctx hq sq mq (wit_ev hq sq) [v] []
      simpa using this
  have end_ : ∀ {v : Nat} {q : Q}, okc v → q.wf → q.simple → q.mid → ∃ u, okt u ∧ u.length ≤ 6 ∧ (Q.end_ v).ev u = true ∧ q.ev u = true := fun {v q} hv hq sq mq => by
    obtain ⟨b1, b2⟩ := wit_ok hq sq
    refine ⟨wit q ++ [v], app_okt b1 (wit_ok (q := .end_ v) hv trivial).1, by simp; omega, ?_, ?_⟩
    · simp [Q.ev, cutE]
    · have := ev_ctx hq sq mq (wit_ev hq sq) [] [v]
      simpa using this
  have swap : ∀ {p q : Q}, (∃ u, okt u ∧ u.length ≤ 6 ∧ p.ev u = true ∧ q.ev u = true) → ∃ u, okt u ∧ u.length ≤ 6 ∧ q.ev u = true ∧ p.ev u = true := fun ⟨u, a, b, c, d⟩ => ⟨u, a, b, d, c⟩
  have be : ∀ {v w : Nat}, okc v → okc w → ∃ u, okt u ∧ u.length ≤ 6 ∧ (Q.begin v).ev u = true ∧ (Q.end_ w).ev u = true := fun {v w} hv hw =>
    ⟨[v, w], (wit_ok (q := .near v w 0) ⟨hv, hw, by decide⟩ trivial).1, by simp, by simp [Q.ev, cut0], by simp [Q.ev, cutE]⟩
  have mid_of : ∀ q : Q, q.simple → (∃ v, q = .begin v) ∨ (∃ v, q = .end_ v) ∨ q.mid := fun q hs => by
    cases q with
    | begin v => exact .inl ⟨v, rfl⟩
    | end_ v => exact .inr (.inl ⟨v, rfl⟩)
    | _ => exact .inr (.inr trivial)
  rcases mid_of p sp with ⟨v, rfl⟩ | ⟨v, rfl⟩ | mp
  · rcases mid_of q sq with ⟨w, rfl⟩ | ⟨w, rfl⟩ | mq
    · have e1 := begin_iff.mp h1
      have e2 := begin_iff.mp h2
      rw [e1] at e2
      cases e2
      exact ⟨[v], (wit_ok (q := .begin v) hp trivial).1, by simp, by simp [Q.ev, cut0], by simp [Q.ev, cut0]⟩
    · exact be hp hq
    · exact beg hp hq sq mq
  · rcases mid_of q sq with ⟨w, rfl⟩ | ⟨w, rfl⟩ | mq
    · exact swap (be hq hp)
    · have e1 := end_iff.mp h1
      have e2 := end_iff.mp h2
      rw [e1] at e2
      cases e2
      exact ⟨[v], (wit_ok (q := .end_ v) hp trivial).1, by simp, by simp [Q.ev, cutE], by simp [Q.ev, cutE]⟩
    · exact end_ hp hq sq mq
  · rcases mid_of q sq with ⟨w, rfl⟩ | ⟨w, rfl⟩ | mq
    · exact swap (beg hq hp sp mp)
    · exact swap (end_ hq hp sp mp)
    · exact cat hp sp hq sq mp mq
theorem simple_of_depth {q : Q} (h : q.depth ≤ 1) : q.simple := by
  cases q with
  | not p => have := p.depth_pos; simp only [Q.depth] at h; omega
  | and p q => have := p.depth_pos; simp only [Q.depth] at h; omega
  | or p q => have := p.depth_pos; simp only [Q.depth] at h; omega
  | _ => trivial
/-- a question of depth two finds a short text, if any -/
theorem found_small {q : Q} (hw : q.wf) (hd : q.depth ≤ 2) {t : Cs} (h : q.ev t = true) : ∃ u, okt u ∧ u.length ≤ 6 ∧ q.ev u = true := by
  have one : ∀ {q : Q}, q.wf → q.simple → ∃ u, okt u ∧ u.length ≤ 6 ∧ q.ev u = true := fun {q} hw hs =>
    ⟨wit q, (wit_ok hw hs).1, by have := (wit_ok hw hs).2; omega, wit_ev hw hs⟩
  cases q with
  | not p =>
    have sp : p.simple := simple_of_depth (by simp only [Q.depth] at hd; omega)
    exact ⟨[], okt_nil, by simp, by simp [Q.ev, ev_empty (q := p) hw sp]⟩
  | and p r =>
    simp only [Q.depth] at hd
    have sp : p.simple := simple_of_depth (by omega)
    have sr : r.simple := simple_of_depth (by omega)
    simp only [Q.ev, Bool.and_eq_true] at h ⊢
    exact both_small hw.1 sp hw.2 sr h.1 h.2
  | or p r =>
    simp only [Q.depth] at hd
    have sp : p.simple := simple_of_depth (by omega)
    obtain ⟨u, a, b, c⟩ := one hw.1 sp
    exact ⟨u, a, b, by simp [Q.ev, c]⟩
  | _ => exact one hw trivial
/-- the first text that a question of depth two finds is short -/
theorem first_small {q : Q} (hw : q.wf) (hd : q.depth ≤ 2) {t : Cs} (h : q.ev t = true) (hf : ∀ u, okt u → ahead u t → q.ev u = false) : t.length ≤ 6 := by
  obtain ⟨u, a, b, c⟩ := found_small hw hd h
  apply Classical.byContradiction
  intro z
  have := hf u a (.inl (by omega))
  rw [c] at this
  cases this
/-- .. and it is a least find -/
theorem first_least {q : Q} {t : Cs} (ht : okt t) (h : q.ev t = true) (hf : ∀ u, okt u → ahead u t → q.ev u = false) : leastQ q t = true := by
  unfold leastQ
  rw [h, Bool.true_and, Bool.not_eq_true', List.any_eq_false]
  intro i hi
  have hi' : i < t.length := List.mem_range.mp hi
  have := del_len hi'
  rw [hf _ (del_okt ht i) (.inl (by omega))]
  simp
end WF


set_option linter.all false
set_option maxRecDepth 100000
/-! # MQue: a question drawn -/
namespace WF
section
variable {ns : List Int} {b : Nat} {R S : Store} {P : D → Store → Prop} {E : Nat → Store → Prop}
/-- the draws that a question of depth d may take -/
def qcost : Nat → Nat
  | 0 => 0
  | d + 1 => 2 + 8 + 2 * qcost d
theorem question_ok : ∀ {n d : Nat} {S : Store} {b : Nat} {P : D → Store → Prop}, 1 ≤ d → d ≤ n → Tn ns.length (b + qcost d) R S → (∀ (q : Q) S', q.wf → q.depth ≤ d → Tn ns.length b R S' → P q.enc S') →
    Wp (L_question n [.lst (ns.map .int), .loc 0, .int d] S) P E
  | 0, d, S, b, P, h0, h1, _, _ => by omega
  | n + 1, d, S, b, P, h0, h1, h, k => by
    obtain ⟨d, rfl⟩ : ∃ d', d = d' + 1 := ⟨d - 1, by omega⟩
    have hc : qcost (d + 1) = 10 + 2 * qcost d := rfl
    have hsub : ∀ (S : Store), gSub (.int ((d + 1 : Nat) : Int)) (.int 1) S = .ok (.int (d : Nat)) S := fun S => by
      show Res.ok (D.int (((d + 1 : Nat) : Int) - 1)) S = _
      rw [show ((d + 1 : Nat) : Int) - 1 = (d : Nat) by omega]
    unfold L_question
    refine w_run ?_
    walk_at "wf all"
    refine draw_ok (b := b + 9 + 2 * qcost d) (h.mono (by omega)) (by omega) (by omega) fun r S' h2 h3 h4 => ?_
    have hs : Tn ns.length (b + 8) R S' := h4.mono (by omega)
    have simp' : ∀ (P' : D → Store → Prop), (∀ (q : Q) S', q.wf → q.depth ≤ d + 1 → Tn ns.length b R S' → P' q.enc S') → Wp (L_simple [.lst (ns.map .int), .loc 0] S') P' E :=
      fun P' k' => simple_ok hs fun q S2 h5 h6 h7 => k' q S2 h5 (by rw [Q.simple_depth h6]; omega) h7
    have sub : ∀ {S : Store} {b' : Nat} {P' : D → Store → Prop}, 1 ≤ d → Tn ns.length (b' + qcost d) R S → (∀ (q : Q) S', q.wf → q.depth ≤ d → Tn ns.length b' R S' → P' q.enc S') → Wp (L_question n [.lst (ns.map .int), .loc 0, .int d] S) P' E :=
      fun hd hT k' => question_ok hd (by omega) hT k'
    walk_at "wf all"
    refine wp_eq (a := .bl (((d + 1 : Nat) : Int) == 1)) (S := S') (by simp [gEq, res, D.plain, D.depth, D.eqv]) ?_
    refine ⟨_, rfl, fun e => ?_, fun e => ?_⟩
    · walk_at "wf all"
      refine wp_eq (a := .bl (r == 0)) (S := S') (by simp [gEq, res, D.plain, D.depth, D.eqv]) ?_
      refine ⟨_, rfl, fun e2 => ?_, fun e2 => ?_⟩
      · walk_at "wf all"
        exact simp' _ fun q S2 h5 h6 h7 => k q S2 h5 h6 h7
      · have hd : 1 ≤ d := by
          have : ¬ ((d + 1 : Nat) : Int) = 1 := by simpa using e
          omega
        walk_at "wf all"
        refine wp_eq (a := .bl (r == 1)) (S := S') (by simp [gEq, res, D.plain, D.depth, D.eqv]) ?_
        refine ⟨_, rfl, fun e3 => ?_, fun e3 => ?_⟩
        · walk_at "wf all"
          refine wp_eq (hsub _) ?_
          refine sub (b' := b) hd (h4.mono (by omega)) fun q S2 h5 h6 h7 => ?_
          exact k (.not q) S2 h5 (by simp [Q.depth]; omega) h7
        · walk_at "wf all"
          refine draw_ok (b := b + 8 + 2 * qcost d) (h4.mono (by omega)) (by omega) (by omega) fun r' S3 h5 h6 h7 => ?_
          have : r' = 0 ∨ r' = 1 := by omega
          rcases this with e | e <;> subst e
          · walk_at "wf op"
            refine wp_eq (hsub _) ?_
            refine sub (b' := b + 8 + qcost d) hd (h7.mono (by omega)) fun q S2 h5 h6 h8 => ?_
            walk_at "wf all"
            refine wp_eq (hsub _) ?_
            refine sub (b' := b) hd (h8.mono (by omega)) fun q2 S2 h9 h10 h11 => ?_
            exact k (.and q q2) S2 ⟨h5, h9⟩ (by simp [Q.depth]; omega) h11
          · walk_at "wf op"
            refine wp_eq (hsub _) ?_
            refine sub (b' := b + 8 + qcost d) hd (h7.mono (by omega)) fun q S2 h5 h6 h8 => ?_
            walk_at "wf all"
            refine wp_eq (hsub _) ?_
            refine sub (b' := b) hd (h8.mono (by omega)) fun q2 S2 h9 h10 h11 => ?_
            exact k (.or q q2) S2 ⟨h5, h9⟩ (by simp [Q.depth]; omega) h11
    · refine ⟨fun _ => ?_, fun z => nomatch z⟩
      walk_at "wf all"
      exact simp' _ fun q S2 h5 h6 h7 => k q S2 h5 h6 h7
end
end WF


set_option linter.all false
set_option maxRecDepth 100000
/-! # MTxt: a text drawn -/
namespace WF
section
variable {ns : List Int} {b : Nat} {R S : Store} {P : D → Store → Prop} {E : Nat → Store → Prop}
end
end WF


set_option linter.all false
set_option maxRecDepth 100000
set_option maxHeartbeats 4000000
/-! # ML: the laws' own finds, in plain Lean -/
namespace WF
section
variable {S : Store}
/-- places of a sign: one turn -/
def plcH (t : Cs) (s : Cs) (d : D) : Bool := match d with
  | .int i => match t[i.toNat]? with
    | some c => [c] == s
    | none => false
  | _ => false
def plc (t s : Cs) : List D := (rngD 0 t.length).filter (plcH t s)
theorem mem_plc {t : Cs} {c : Nat} {d : D} : d ∈ plc t [c] ↔ ∃ i : Nat, t[i]? = some c ∧ d = .int (i : Int) := by
  unfold plc
  rw [List.mem_filter, mem_rng]
  constructor
  · rintro ⟨⟨i, hi, rfl⟩, h⟩
    refine ⟨i, ?_, rfl⟩
    simp only [plcH, Int.toNat_natCast, List.getElem?_eq_getElem hi] at h ⊢
    simpa using h
  · rintro ⟨i, h, rfl⟩
    have hi : i < t.length := by
      rcases Nat.lt_or_ge i t.length with z | z
      · exact z
      · rw [List.getElem?_eq_none z] at h; cases h
    refine ⟨⟨i, hi, rfl⟩, ?_⟩
    simp [plcH, h]
def isInt : D → Prop
  | .int _ => True
  | _ => False
theorem plains_isInt : ∀ {ds : List D}, (∀ d ∈ ds, isInt d) → D.plains ds = true
  | [], _ => rfl
  | d :: ds, h => by
    have h1 := h d (List.mem_cons_self ..)
    have h2 := plains_isInt fun x hx => h x (List.mem_cons_of_mem _ hx)
    cases d <;> first | exact h1.elim | simp [D.plains, D.plain, h2]
theorem eqvs_nil {ds : List D} : D.eqvs ds [] = ds.isEmpty := by cases ds <;> rfl
theorem gNe_nil {ds : List D} (h : ∀ d ∈ ds, isInt d) : gNe (.lst ds) (.lst []) S = .ok (.bl (!ds.isEmpty)) S := by
  have : gEq (.lst ds) (.lst []) S = .ok (.bl ds.isEmpty) S := by
    simp [gEq, res, D.plain, plains_isInt h, D.plains, D.depth, D.depths, D.eqv, eqvs_nil]
  simp [gNe, this]
theorem gIdx_str {t : Cs} {i : Nat} {c : Nat} (hl : t.length ≤ lim) (h : t[i]? = some c) : gIdx (.str t) (.int (i : Int)) S = .ok (.str [c]) S := by
  have : atI t (i : Int) = some c := atI_at (by omega) (by simpa using h)
  simp [gIdx, res, hl, this]
/-- the places of a sign, as the laws list them -/
theorem plc_comp {ρ : Env} {t s : Cs} {ps : List D} {j : Nat} (hl : t.length ≤ lim) (h1 : ρ[1]? = some (some (.str t))) (hρ : ρ.length = 11) (hj : (ρ.set 4 none)[6]? = some (some (.tup ps))) (hs : ∀ S' : Store, gIdx (.tup ps) (.int (j : Int)) S' = .ok (.str s) S') :
    dComp (iRange1 (dCall (f1 bLen) [(dVar 1)])) (gName 4) [4] (tVal (dBin gEq (dBin gIdx (dVar 1) (dVar 4)) (dBin gIdx (dVar 6) (dC (.int (j : Int)))))) (dVar 4) ρ S = .ok (.lst (plc t s)) S := by
  have hlen : (t.length : Int) ≤ 16777216 := by simp [lim] at hl; omega
  rw [comp_pure (ds := rngD 0 t.length) (plcH t s) id]
  · rw [List.map_id]; rfl
  · simp only [iRange1, dCall, evalAll, dVar, h1, Res.ok_bind, f1, bLen_str hl]
    rw [if_pos ⟨by omega, hlen⟩]
    simp
  · rw [rng_len]; exact hl
  · intro d hd
    obtain ⟨i, hi, rfl⟩ := mem_rng.mp hd
    have hi' : t[i]? = some t[i] := List.getElem?_eq_getElem hi
    have v1 : ((wipe ρ [4]).set 4 (some (.int (i : Int))))[1]? = some (some (.str t)) := by
      simp [wipe, List.getElem?_set, h1]
    have v4 : ((wipe ρ [4]).set 4 (some (.int (i : Int))))[4]? = some (some (.int (i : Int))) := by
      simp [wipe, List.getElem?_set, hρ]
    have v6 : ((wipe ρ [4]).set 4 (some (.int (i : Int))))[6]? = some (some (.tup ps)) := by
      rw [← hj]
      simp [wipe, List.getElem?_set]
    refine ⟨_, rfl, wp_to ?_, fun _ => ?_⟩
    · refine w_tv (w_bin (w_bin (w_var v1 (w_var v4 ?_))))
      refine wp_eq (gIdx_str hl hi') (w_bin (w_var v6 (w_c ?_)))
      refine wp_eq (hs S) ?_
      refine wp_eq gEq_str ?_
      refine ⟨_, rfl, ?_, rfl⟩
      simp only [plcH, Int.toNat_natCast, hi']
    · simp only [dVar, v4, id]
theorem plc_int {t s : Cs} : ∀ d ∈ plc t s, isInt d := by
  intro d hd
  obtain ⟨i, _, rfl⟩ := mem_rng.mp (List.mem_filter.mp hd).1
  trivial
theorem plc_count {t : Cs} {c : Nat} : (plc t [c]).length = t.count c := by
  have key : ∀ (u : Cs) (k : Nat), ((List.range u.length).filter fun i => match u[i]? with
      | some x => [x] == [c]
      | none => false).length = u.count c := by
    intro u
    induction u with
    | nil => intro k; rfl
    | cons x u ih =>
      intro k
      rw [List.length_cons, List.range_succ_eq_map, List.filter_cons, List.filter_map, List.count_cons]
      have := ih k
      simp only [Function.comp_def, List.getElem?_cons_zero, List.getElem?_cons_succ, Nat.succ_eq_add_one] at this ⊢
      split
      · rename_i h
        rw [List.length_cons, List.length_map, this]
        simp at h
        simp [h]
      · rename_i h
        rw [List.length_map, this]
        simp at h
        simp [h]
  unfold plc rngD
  rw [List.filter_map, List.length_map, ← key t 0]
  congr 2
  funext i
  simp [plcH]
/-! ### row -/
def rowH (t s : Cs) (d : D) : Bool := match d with
  | .int k => cut t (some k) (some (k + (s.length : Int))) == s
  | _ => false
theorem rowF_iff {t s : Cs} (hs : s ≠ []) : (!((rngD 0 t.length).filter (rowH t s)).isEmpty) = subIn s t := by
  rw [Bool.eq_iff_iff, subIn_iffM hs]
  simp only [Bool.not_eq_true', List.isEmpty_eq_false_iff_exists_mem]
  constructor
  · rintro ⟨d, hd⟩
    obtain ⟨h1, h2⟩ := List.mem_filter.mp hd
    obtain ⟨k, hk, rfl⟩ := mem_rng.mp h1
    refine ⟨k, hk, ?_⟩
    simp only [rowH, beq_iff_eq] at h2
    rwa [cut_nat (by omega)] at h2
  · rintro ⟨k, hk, h⟩
    refine ⟨.int (k : Int), List.mem_filter.mpr ⟨mem_rng.mpr ⟨k, hk, rfl⟩, ?_⟩⟩
    simp only [rowH, beq_iff_eq]
    rwa [cut_nat (by omega)]
/-! ### near, before -/
def hitC (nr : Bool) (g : Int) (p k : Int) : Bool := (decide (0 < k - p) && decide (k - p ≤ g + 1)) || (nr && (decide (0 < p - k) && decide (p - k ≤ g + 1)))
def hitH (nr : Bool) (g : Int) (p : Int) (d : D) : Bool := match d with
  | .int k => hitC nr g p k
  | _ => false
def hit (t : Cs) (w : Nat) (nr : Bool) (g : Int) (d : D) : Bool := match d with
  | .int p => !((plc t [w]).filter (hitH nr g p)).isEmpty
  | _ => false
theorem hit_iff {t : Cs} {v w g : Nat} {nr : Bool} : ((plc t [v]).any (hit t w nr g)) = (clo t v w g || (nr && clo t w v g)) := by
  rw [Bool.eq_iff_iff]
  rw [List.any_eq_true]
  simp only [Bool.or_eq_true, Bool.and_eq_true, clo_iff]
  constructor
  · rintro ⟨d, hd, h⟩
    obtain ⟨i, hi, rfl⟩ := mem_plc.mp hd
    simp only [hit, Bool.not_eq_true', List.isEmpty_eq_false_iff_exists_mem] at h
    obtain ⟨e, he⟩ := h
    obtain ⟨h1, h2⟩ := List.mem_filter.mp he
    obtain ⟨j, hj, rfl⟩ := mem_plc.mp h1
    simp only [hitH, hitC, Bool.or_eq_true, Bool.and_eq_true, decide_eq_true_eq] at h2
    rcases h2 with h2 | ⟨h3, h2⟩
    · exact .inl ⟨i, j, hi, hj, by omega, by omega⟩
    · exact .inr ⟨h3, j, i, hj, hi, by omega, by omega⟩
  · intro h
    have : ∃ i j : Nat, t[i]? = some v ∧ t[j]? = some w ∧ hitC nr g i j = true := by
      rcases h with ⟨i, j, h1, h2, h3, h4⟩ | ⟨h0, i, j, h1, h2, h3, h4⟩
      · exact ⟨i, j, h1, h2, by simp only [hitC, Bool.or_eq_true, Bool.and_eq_true, decide_eq_true_eq]; left; omega⟩
      · exact ⟨j, i, h2, h1, by simp only [hitC, Bool.or_eq_true, Bool.and_eq_true, decide_eq_true_eq]; exact .inr ⟨h0, by omega⟩⟩
    obtain ⟨i, j, h1, h2, h3⟩ := this
    refine ⟨.int (i : Int), mem_plc.mpr ⟨i, h1, rfl⟩, ?_⟩
    simp only [hit, Bool.not_eq_true', List.isEmpty_eq_false_iff_exists_mem]
    exact ⟨.int (j : Int), List.mem_filter.mpr ⟨mem_plc.mpr ⟨j, h2, rfl⟩, h3⟩⟩
/-! ### the finds -/
theorem gIn_bl2 {k : Bool} {a b : Bool} : gIn (.bl k) (.lst [.bl a, .bl b]) S = .ok (.bl ((a == k) || (b == k))) S := by
  cases k <;> cases a <;> cases b <;> rfl
theorem gIn_bl1 {k : Bool} {a : Bool} : gIn (.bl k) (.lst [.bl a]) S = .ok (.bl (a == k)) S := by
  cases k <;> cases a <;> rfl
theorem gNotIn_bl2 {k : Bool} {a b : Bool} : gNotIn (.bl k) (.lst [.bl a, .bl b]) S = .ok (.bl (!((a == k) || (b == k)))) S := by
  cases k <;> cases a <;> cases b <;> rfl
theorem gNotIn_bl1 {k : Bool} {a : Bool} : gNotIn (.bl k) (.lst [.bl a]) S = .ok (.bl (!(a == k))) S := by
  cases k <;> cases a <;> rfl
/-- the loop of near and before -/
theorem near_loop {t : Cs} {v w g : Nat} {nr : Bool} {nm : Cs} (hnm : (nm == sNear) = nr) {q : D} {ρ : Env} {P : Ctl → Store → Prop}
    {x4 x8 : Option D} (hρ : ρ = [some q, some (.str t), some (.lst (plc t [v])), some (.lst (plc t [w])), x4, some (.str nm), some (.tup [.str [v], .str [w], .int g]), none, x8, none, none])
    (hl : t.length ≤ lim) (ht : (clo t v w g || (nr && clo t w v g)) = true → P (.ret (.bl true)) S) (hf : (clo t v w g || (nr && clo t w v g)) = false → ∀ ρ, P (.next ρ) S) :
    Wp (forL (gName 4) (sSeq (sAsg (dBin gAdd (dBin gIdx (dVar 6) (dC (.int 2))) (dC (.int 1))) (gName 8))
    (sIf (tVal (dBin gNe (dComp (iVal (dVar 3)) (gName 10) [10] (tOr (tVal (dChain gLt gLe (dC (.int 0)) (dBin gSub (dVar 10) (dVar 4)) (dVar 8))) (tAnd (tVal (dBin gEq (dVar 5) (dC (.str [110, 101, 97, 114])))) (tVal (dChain gLt gLe (dC (.int 0)) (dBin gSub (dVar 4) (dVar 10)) (dVar 8))))) (dVar 10)) (dLst [])))
    (sRet (dC (.bl true)))
    sNil)) (plc t [v]) ρ S) P fun _ _ => False := by
  rw [← hit_iff] at ht hf
  have hsub : ∀ d ∈ plc t [v], d ∈ plc t [v] := fun _ h => h
  revert ht hf
  generalize hgen : (plc t [v]).any (hit t w nr (g : Int)) = res
  intro ht hf
  refine w_forL (fun ds ρ S1 => S1 = S ∧ (∀ d ∈ ds, d ∈ plc t [v]) ∧ ds.any (hit t w nr (g : Int)) = res ∧ ∃ x4 x8, ρ = [some q, some (.str t), some (.lst (plc t [v])), some (.lst (plc t [w])), x4, some (.str nm), some (.tup [.str [v], .str [w], .int g]), none, x8, none, none]) ⟨rfl, hsub, hgen, x4, x8, hρ⟩ ?_ ?_
  · rintro ρ S1 ⟨rfl, _, h, _⟩
    exact hf (by simpa using h.symm) ρ
  · rintro d ds ρ S1 ⟨rfl, hm, hr, y4, y8, rfl⟩
    obtain ⟨p, hp, rfl⟩ := mem_plc.mp (hm d (List.mem_cons_self ..))
    have hm' : ∀ d ∈ ds, d ∈ plc t [v] := fun x hx => hm x (List.mem_cons_of_mem _ hx)
    walk_at "wf all"
    walk_at "wf op"
    walk_at "wf op"
    have hlp : (plc t [w]).length ≤ lim := Nat.le_trans (List.length_filter_le ..) (by rw [rng_len]; exact hl)
    refine ⟨plc t [w], .inl rfl, rfl, hlp, ?_⟩
    refine wp_eq (compL_pure (hitH nr (g : Int) (p : Int)) id ?_) ?_
    · · intro d hd
        obtain ⟨k, hk, rfl⟩ := mem_plc.mp hd
        refine ⟨_, rfl, wp_to ?_, fun _ => rfl⟩
        have hz : hitH nr (g : Int) (p : Int) (.int (k : Int)) = ((decide (0 < (k : Int) - p) && decide ((k : Int) - p ≤ (g : Int) + 1)) || (nr && (decide (0 < (p : Int) - k) && decide ((p : Int) - k ≤ (g : Int) + 1)))) := rfl
        rw [hz]
        have second : ∀ {PB : Bool → Store → Prop}, PB (nr && (decide (0 < (p : Int) - k) && decide ((p : Int) - k ≤ (g : Int) + 1))) S1 →
            Wp (tAnd (tVal (dBin gEq (dVar 5) (dC (.str [110, 101, 97, 114])))) (tVal (dChain gLt gLe (dC (.int 0)) (dBin gSub (dVar 4) (dVar 10)) (dVar 8)))
              ((wipe (List.set (List.set [some q, some (.str t), some (.lst (plc t [v])), some (.lst (plc t [w])), y4, some (.str nm), some (.tup [.str [v], .str [w], .int g]), none, y8, none, none] 4 (some (.int (p : Int)))) 8 (some (.int ((g : Int) + 1)))) [10]).set 10 (some (.int (k : Int)))) S1) PB fun _ _ => False := by
          intro PB h
          walk_at "wf all"
          refine wp_eq gEq_str ?_
          refine ⟨_, rfl, fun e => ?_, fun e => ?_⟩
          · have e' : nr = true := by rw [← hnm]; exact e
            rw [e', Bool.true_and] at h
            walk_at "wf all"
            walk_at "wf op"
            walk_at "wf op"
            refine ⟨_, rfl, fun e => ?_, fun e => ?_⟩
            · walk_at "wf all"
              walk_at "wf op"
              refine ⟨_, rfl, ?_⟩
              rw [e, Bool.true_and] at h
              exact h
            · refine ⟨_, rfl, ?_⟩
              rw [e, Bool.false_and] at h
              exact h
          · have e' : nr = false := by rw [← hnm]; exact e
            rw [e', Bool.false_and] at h
            exact h
        refine w_tor ?_
        walk_at "wf all"
        walk_at "wf op"
        walk_at "wf op"
        refine ⟨_, rfl, fun e => ?_, fun e => ?_⟩
        · walk_at "wf all"
          walk_at "wf op"
          refine ⟨_, rfl, fun e2 => ?_, fun e2 => ?_⟩
          · refine second ?_
            rw [e, e2]
            simp
          · rw [e, e2]
            simp
        · refine ⟨_, rfl, fun _ => ?_, fun z => nomatch z⟩
          refine second ?_
          rw [e]
          simp
    · rw [List.map_id]
      walk_at "wf all"
      refine wp_eq (gNe_nil fun d hd => plc_int d (List.mem_filter.mp hd).1) ?_
      refine ⟨_, rfl, fun e => ?_, fun e => ?_⟩
      · walk_at "wf all"
        refine ht ?_
        rw [← hr, List.any_cons]
        simp only [hit, e, Bool.true_or]
      · walk_at "wf all"
        refine ⟨rfl, hm', ?_, _, _, rfl⟩
        rw [← hr, List.any_cons]
        simp only [hit, e, Bool.false_or]
/-- the comprehension over a question's parts -/
theorem parts1 {F : FF} {x t : D} {b : Bool} {ρ : Env} (h1 : ρ[6]? = some (some (.tup [x]))) (h2 : ρ[1]? = some (some t)) (h3 : 9 < ρ.length) (hx : F [x, t] S = .ok (.bl b) S) :
    dComp (iVal (dVar 6)) (gName 9) [9] tYes (dCall F [(dVar 9), (dVar 1)]) ρ S = .ok (.lst [.bl b]) S := by
  rw [comp_pure (ds := [x]) (fun _ => true) (fun _ => .bl b)]
  · rfl
  · simp [iVal, dVar, h1]
  · simp [lim]
  · intro d hd
    have : d = x := by simpa using hd
    subst this
    refine ⟨_, rfl, rfl, fun _ => ?_⟩
    simp [dCall, evalAll, dVar, wipe, List.getElem?_set, h2, h3, hx]
theorem parts2 {F : FF} {x y t : D} {b c : Bool} {ρ : Env} (h1 : ρ[6]? = some (some (.tup [x, y]))) (h2 : ρ[1]? = some (some t)) (h3 : 9 < ρ.length) (hx : F [x, t] S = .ok (.bl b) S) (hy : F [y, t] S = .ok (.bl c) S) :
    dComp (iVal (dVar 6)) (gName 9) [9] tYes (dCall F [(dVar 9), (dVar 1)]) ρ S = .ok (.lst [.bl b, .bl c]) S := by
  have e1 : ∀ d, ((wipe ρ [9]).set 9 (some d))[9]? = some (some d) := fun d => by simp [wipe, List.getElem?_set, h3]
  have e2 : ∀ d, ((wipe ρ [9]).set 9 (some d))[1]? = some (some t) := fun d => by simp [wipe, List.getElem?_set, h2]
  simp only [dComp, iVal, dVar, h1, Res.ok_bind]
  rw [if_pos (by simp [lim])]
  simp only [compL, gName, tYes, dCall, evalAll, dVar, e1, e2, Res.ok_bind, Res.ok_noex, hx, hy, if_true]
theorem law_finds_ok : ∀ {n : Nat} {q : Q} {t : Cs}, q.wf → q.depth ≤ n → t.length ≤ lim → L_finds n [q.enc, .str t] S = .ok (.bl (q.ev t)) S
  | 0, q, _, _, h, _ => by have := q.depth_pos; omega
  | n + 1, q, t, hw, h, hl => by
    refine wp_to ?_
    cases q with
    | not p =>
      unfold L_finds
      refine w_run ?_
      walk_at "wf go0"
      refine wp_eq (parts1 (x := p.enc) (t := .str t) (b := p.ev t) rfl rfl (Nat.le_of_ble_eq_true rfl) (law_finds_ok (q := p) hw (by simp [Q.depth] at h; omega) hl)) ?_
      walk_at "wf go0"
      exact ⟨rfl, rfl⟩
    | and p q =>
      unfold L_finds
      refine w_run ?_
      walk_at "wf go0"
      refine wp_eq (parts2 (x := p.enc) (y := q.enc) (t := .str t) (b := p.ev t) (c := q.ev t) rfl rfl (Nat.le_of_ble_eq_true rfl) (law_finds_ok (q := p) hw.1 (by simp [Q.depth] at h; omega) hl) (law_finds_ok (q := q) hw.2 (by simp [Q.depth] at h; omega) hl)) ?_
      walk_at "wf go0"
      refine ⟨?_, rfl⟩
      simp only [Q.ev]
      cases p.ev t <;> cases q.ev t <;> rfl
    | or p q =>
      unfold L_finds
      refine w_run ?_
      walk_at "wf go0"
      refine wp_eq (parts2 (x := p.enc) (y := q.enc) (t := .str t) (b := p.ev t) (c := q.ev t) rfl rfl (Nat.le_of_ble_eq_true rfl) (law_finds_ok (q := p) hw.1 (by simp [Q.depth] at h; omega) hl) (law_finds_ok (q := q) hw.2 (by simp [Q.depth] at h; omega) hl)) ?_
      walk_at "wf go0"
      refine ⟨?_, rfl⟩
      simp only [Q.ev]
      cases p.ev t <;> cases q.ev t <;> rfl
    | often c n =>
      unfold L_finds
      refine w_run ?_
      walk_at "wf go0"
      refine wp_eq (plc_comp (s := [c]) (j := 0) hl rfl rfl rfl fun _ => rfl) ?_
      walk_at "wf go0"
      refine ⟨?_, rfl⟩
      rw [plc_count]
      rfl
    | row s =>
      unfold L_finds
      refine w_run ?_
      walk_at "wf go0"
      refine wp_eq (plc_comp (s := s) (j := 0) hl rfl rfl rfl fun _ => rfl) ?_
      walk_at "wf go0"
      have hs : s ≠ [] := by
        intro e
        have := hw.2.1
        rw [e] at this
        simp at this
      have hs2 : s.length ≤ lim := by have := hw.2.2; simp [lim]; omega
      refine wp_eq (comp_pure (ds := rngD 0 t.length) (rowH t s) id ?_ ?_ ?_) ?_
      · refine wp_to ?_
        walk_at "wf go0"
        refine wp_eq (bLen_str hl) ?_
        have hlen : (t.length : Int) ≤ 16777216 := by simp [lim] at hl; omega
        exact ⟨_, rfl, by omega, hlen, by simp, rfl⟩
      · rw [rng_len]; exact hl
      · intro d hd
        obtain ⟨k, hk, rfl⟩ := mem_rng.mp hd
        refine ⟨_, rfl, wp_to ?_, fun _ => rfl⟩
        walk_at "wf go0"
        refine wp_eq (bLen_str hs2) ?_
        walk_at "wf go0"
        refine wp_eq (a := .str (cut t (some (k : Int)) (some ((k : Int) + (s.length : Int))))) (S := S) (by simp [gSlice, res, hl]) ?_
        walk_at "wf go0"
        exact ⟨rfl, rfl⟩
      · walk_at "wf go0"
        rw [List.map_id]
        refine wp_eq (gNe_nil fun d hd => ?_) ?_
        · obtain ⟨i, _, rfl⟩ := mem_rng.mp (List.mem_filter.mp hd).1
          trivial
        · rw [rowF_iff hs]
          exact ⟨rfl, rfl⟩
    | begin c =>
      unfold L_finds
      refine w_run ?_
      walk_at "wf go0"
      refine wp_eq (plc_comp (s := [c]) (j := 0) hl rfl rfl rfl fun _ => rfl) ?_
      walk_at "wf go0"
      refine wp_eq (bLen_str hl) ?_
      cases t with
      | nil =>
        walk_at "wf go0"
        exact ⟨rfl, rfl⟩
      | cons x t =>
        walk_at "wf go0"
        refine ⟨fun _ => ?_, fun e => ?_⟩
        · walk_at "wf go0"
          refine wp_eq (gIdx_str (i := 0) (c := x) hl rfl) ?_
          walk_at "wf go0"
          refine ⟨?_, rfl⟩
          simp [Q.ev, cut0, res, D.eqv]
        · have := of_decide_eq_false e
          simp at this
    | end_ c =>
      unfold L_finds
      refine w_run ?_
      walk_at "wf go0"
      refine wp_eq (plc_comp (s := [c]) (j := 0) hl rfl rfl rfl fun _ => rfl) ?_
      walk_at "wf go0"
      refine wp_eq (bLen_str hl) ?_
      rcases List.eq_nil_or_concat t with ht | ⟨l, x, ht⟩
      · subst ht
        walk_at "wf go0"
        exact ⟨rfl, rfl⟩
      · have hlen : t.length = l.length + 1 := by rw [ht]; simp
        have hx : t[l.length]? = some x := by rw [ht]; simp
        have hg : t.getLast? = some x := by rw [ht]; simp
        walk_at "wf go0"
        refine ⟨fun _ => ?_, fun e => ?_⟩
        · walk_at "wf go0"
          refine wp_eq (bLen_str hl) ?_
          walk_at "wf go0"
          rw [hlen, show ((l.length + 1 : Nat) : Int) - 1 = (l.length : Int) by omega]
          refine wp_eq (gIdx_str hl hx) ?_
          walk_at "wf go0"
          refine ⟨?_, rfl⟩
          simp only [Q.ev, cutE, hg]
          simp [res, D.eqv]
        · have := of_decide_eq_false e
          omega
    | word c =>
      unfold L_finds
      refine w_run ?_
      walk_at "wf go0"
      refine wp_eq (plc_comp (s := [c]) (j := 0) hl rfl rfl rfl fun _ => rfl) ?_
      walk_at "wf go0"
      refine wp_eq (gNe_nil fun d hd => plc_int d hd) ?_
      refine ⟨?_, rfl⟩
      congr 1
      simp only [Q.ev, subIn_one]
      rw [Bool.eq_iff_iff]
      simp only [Bool.not_eq_true', List.isEmpty_eq_false_iff_exists_mem, List.contains_iff_mem]
      constructor
      · rintro ⟨d, hd⟩
        obtain ⟨i, hi, _⟩ := mem_plc.mp hd
        exact List.mem_of_getElem? hi
      · intro h
        obtain ⟨i, hi⟩ := List.mem_iff_getElem?.mp h
        exact ⟨_, mem_plc.mpr ⟨i, hi, rfl⟩⟩
    | near v w g =>
      unfold L_finds
      refine w_run ?_
      walk_at "wf go0"
      refine wp_eq (plc_comp (s := [v]) (j := 0) hl rfl rfl rfl fun _ => rfl) ?_
      walk_at "wf go0"
      refine wp_eq (plc_comp (s := [w]) (j := 1) hl rfl rfl rfl fun _ => rfl) ?_
      walk_at "wf go0"
      refine w_for ?_
      walk_at "wf go0"
      refine ⟨plc t [v], .inl rfl, rfl, ?_⟩
      refine near_loop (nm := sNear) (nr := true) (by decide) rfl hl (fun e => ?_) fun e ρ => ?_
      · refine nx_ret ?_
        refine ⟨?_, rfl⟩
        rw [show (Q.near v w g).ev t = (clo t v w g || (true && clo t w v g)) by simp [Q.ev, Bool.or_comm], e]
      · walk_at "wf go0"
        refine ⟨?_, rfl⟩
        rw [show (Q.near v w g).ev t = (clo t v w g || (true && clo t w v g)) by simp [Q.ev, Bool.or_comm], e]
    | before v w g =>
      unfold L_finds
      refine w_run ?_
      walk_at "wf go0"
      refine wp_eq (plc_comp (s := [v]) (j := 0) hl rfl rfl rfl fun _ => rfl) ?_
      walk_at "wf go0"
      refine wp_eq (plc_comp (s := [w]) (j := 1) hl rfl rfl rfl fun _ => rfl) ?_
      walk_at "wf go0"
      refine w_for ?_
      walk_at "wf go0"
      refine ⟨plc t [v], .inl rfl, rfl, ?_⟩
      refine near_loop (nm := sBefore) (nr := false) (by decide) rfl hl (fun e => ?_) fun e ρ => ?_
      · refine nx_ret ?_
        refine ⟨?_, rfl⟩
        rw [show (Q.before v w g).ev t = (clo t v w g || (false && clo t w v g)) by simp [Q.ev], e]
      · walk_at "wf go0"
        refine ⟨?_, rfl⟩
        rw [show (Q.before v w g).ev t = (clo t v w g || (false && clo t w v g)) by simp [Q.ev], e]
/-- what a text of the program's reads -/
theorem law_finds_t {q : Q} {t : Cs} (hw : q.wf) (hd : q.depth ≤ 3) (hl : t.length ≤ 60) : L_finds fuel [q.enc, .str t] S = .ok (.bl (q.ev t)) S :=
  law_finds_ok hw (fuel_le (by omega)) (by simp [lim]; omega)
end
end WF


set_option linter.all false
set_option maxRecDepth 100000
set_option maxHeartbeats 4000000
/-! # M30: facts for the law of k30 -/
namespace WF
/-- the texts with one word left out -/
def dels (t : Cs) : List Cs := (List.range t.length).map (del t)
section
variable {S : Store} {P : D → Store → Prop} {E : Nat → Store → Prop} {q : Q} {ρ : Env}
theorem find_q {t : Cs} (hq : Qok q) (hl : t.length ≤ 2000000) : L_finds fuel [q.enc, .str t] S = .ok (.bl (q.ev t)) S :=
  law_finds_ok hq.wf (fuel_le (by have := hq.dep; omega)) (by simp only [lim]; omega)
theorem dels_comp {t : Cs} {i k : Nat} (hi : ρ[i]? = some (some (.str t))) (hk : k < ρ.length) (hik : k ≠ i) (hl : t.length ≤ 2000000) :
    dComp (iRange1 (dCall (f1 bLen) [(dVar i)])) (gName k) [k] tYes (dBin gAdd (dSlice (dVar i) dNoPart (dPart (dVar k))) (dSlice (dVar i) (dPart (dBin gAdd (dVar k) (dC (.int 1)))) dNoPart)) ρ S = .ok (.lst ((dels t).map D.str)) S := by
  have hlim : t.length ≤ lim := by simp only [lim]; omega
  rw [comp_pure (ds := rngD 0 t.length) (fun _ => true) (fun d => match d with | .int i => .str (del t i.toNat) | _ => .non) ?_ (by rw [rng_len]; exact hlim) ?_]
  · rw [filter_true]
    unfold rngD dels
    rw [List.map_map, List.map_map]
    congr 2
    apply List.map_congr_left
    intro i hi
    simp
  · refine wp_to (w_r1 (w_call (w_all1 (w_var hi (w_all0 (w_f1 (wp_eq (len_tx hlim) ⟨_, rfl, by omega, by omega, ?_⟩)))))))
    exact ⟨by rw [Int.toNat_natCast], rfl⟩
  · intro d hd'
    obtain ⟨n, hn, rfl⟩ := mem_rng.mp hd'
    refine ⟨_, rfl, rfl, fun _ => ?_⟩
    have e0 : ((wipe ρ [k]).set k (some (.int (n : Int))))[i]? = some (some (.str t)) := by simp [wipe, List.getElem?_set, hik, hi]
    have e1 : ((wipe ρ [k]).set k (some (.int (n : Int))))[k]? = some (some (.int (n : Int))) := by simp [wipe, hk]
    rw [del_ok e0 e1 hn hl]
    simp
theorem dels_mem {t u : Cs} (h : u ∈ dels t) : ∃ i, i < t.length ∧ u = del t i := by
  obtain ⟨i, hi, rfl⟩ := List.mem_map.mp h
  exact ⟨i, List.mem_range.mp hi, rfl⟩
theorem dels_filter {t : Cs} {g : Cs → Bool} : ((dels t).filter g).isEmpty = !((List.range t.length).any fun i => g (del t i)) := by
  unfold dels
  rw [Bool.eq_iff_iff, List.isEmpty_iff, List.filter_eq_nil_iff, Bool.not_eq_true', List.any_eq_false]
  simp
/-- a found text that is no least one has a shorter one -/
theorem dels_some {t : Cs} (h : q.ev t = true) (k : leastQ q t = false) : ∃ u us, (dels t).filter q.ev = u :: us := by
  have : ((dels t).filter q.ev).isEmpty = false := by
    rw [dels_filter]
    simpa [leastQ, h] using k
  cases e : (dels t).filter q.ev with
  | nil => rw [e] at this; cases this
  | cons u us => exact ⟨u, us, rfl⟩
/-- values that are no texts -/
def noTexts : List D := [.non, .int 5, .str [101], .str [65], .tup [.str [97]], .lst [.str [97]], .str [97, 32, 98], .str (List.replicate 61 97), .bl true]
theorem no_texts : ∀ d ∈ noTexts, P_are_words [d, .int 0, .int 60] S = .ok (.bl false) S := by
  intro d hd
  simp only [noTexts, List.mem_cons, List.not_mem_nil, or_false] at hd
  rcases hd with rfl | rfl | rfl | rfl | rfl | rfl | rfl | rfl | rfl
  · unfold P_are_words; rfl
  · unfold P_are_words; rfl
  · rw [are_words_ok (by simp [lim])]; rfl
  · rw [are_words_ok (by simp [lim])]; rfl
  · unfold P_are_words; rfl
  · unfold P_are_words; rfl
  · rw [are_words_ok (by simp [lim])]; rfl
  · rw [are_words_ok (by simp [lim])]; rfl
  · unfold P_are_words; rfl
end
end WF


set_option linter.all false
set_option maxRecDepth 100000
set_option maxHeartbeats 4000000
/-! # M30b: the law of k30 -/
namespace WF
section
variable {P : D → Store → Prop} {E : Nat → Store → Prop}
/-- a statement that goes on with names as the word tells -/
theorem w_seqK {S : Store} {F G : FS} {ρ : Env} {PC : Ctl → Store → Prop} (J : Env → Store → Prop) (h : Wp (F ρ S) (fun c S1 => ∃ ρ1, c = .next ρ1 ∧ J ρ1 S1) E) (k : ∀ ρ1 S1, J ρ1 S1 → Wp (G ρ1 S1) PC E) : Wp (sSeq F G ρ S) PC E :=
  w_seq (h.imp fun c S1 ⟨ρ1, e, h⟩ => by subst e; exact nx_next (k _ _ h))
theorem eqvs_refl_str : ∀ ts : List Cs, D.eqvs (ts.map D.str) (ts.map D.str) = true
  | [] => rfl
  | t :: ts => by simp [D.eqvs, D.eqv, eqvs_refl_str ts]
theorem gNe_tups {ts : List Cs} {S : Store} : gNe (.tup (ts.map D.str)) (.tup (ts.map D.str)) S = .ok (.bl false) S := by
  simp [gNe, gEq, res, D.plain, plains_str', D.depth, depths_str', D.eqv, eqvs_refl_str]
theorem gNe_lsts {ts : List Cs} {S : Store} : gNe (.lst (ts.map D.str)) (.lst (ts.map D.str)) S = .ok (.bl false) S := by
  simp [gNe, gEq, res, D.plain, plains_str', D.depth, depths_str', D.eqv, eqvs_refl_str]
theorem cut_headA {α : Type} {t : List α} {i : Nat} (h : i ≤ t.length) : cut t none (some (i : Int)) = t.take i := by
  unfold cut
  rw [sIx_nat]
  simp [sIx, Nat.min_eq_left h]
theorem cut_tailA {α : Type} {t : List α} {i : Nat} (h : i ≤ t.length) : cut t (some (i : Int)) none = t.drop i := by
  unfold cut
  rw [sIx_nat, Nat.min_eq_left h]
  exact List.take_of_length_le (by simp [sIx])
theorem allT_upto {n : Nat} : ∀ {m : Nat}, n ≤ m → (allT m).filter (fun t => decide (t.length ≤ n)) = allT n
  | 0, h => by
    have : n = 0 := by omega
    subst this
    rfl
  | m + 1, h => by
    by_cases e : n = m + 1
    · subst e
      exact List.filter_eq_self.mpr fun t ht => by simpa using (mem_allT.mp ht).2
    · rw [allT, List.filter_append, allT_upto (by omega)]
      have : (lvT (m + 1)).filter (fun t => decide (t.length ≤ n)) = [] := List.filter_eq_nil_iff.mpr fun t ht => by
        have := (mem_lvT.mp ht).2
        simp
        omega
      rw [this, List.append_nil]
theorem least_upto {q : Q} {n m : Nat} (h : n ≤ m) : ((allT m).filter (leastQ q)).filter (fun t => decide (t.length ≤ n)) = (allT n).filter (leastQ q) := by
  rw [← allT_upto h, List.filter_filter, List.filter_filter]
  congr 1
  funext t
  rw [Bool.and_comm]
theorem found_told' {q : Q} {n b : Nat} {S : Store} (hq : Qok q) (h : Tw n b S) (k : ∀ d S', FirstOf q.ev d → Tw n b S' → P d S') : Wp (P_first_found [q.enc] S) P E :=
  first_found_ok hq h.noCap (fun S' a hn => k _ S' (.inl ⟨rfl, hn⟩) (h.app a)) fun t S' a h1 h2 h3 h4 => k _ S' (.inr ⟨t, rfl, h1, h2, h3, h4⟩) (h.app a)
theorem gNotB_ok {a b : Bool} {S : Store} : gNotB (.bl a) (.bl b) S = .ok (.bl (!(a == b))) S := rfl
end
end WF


set_option linter.all false
set_option maxRecDepth 100000
set_option maxHeartbeats 4000000
/-! # M11: the law of k11 -/
namespace WF
section
variable {P : D → Store → Prop} {E : Nat → Store → Prop}
def apartB (p q : Q) (t : Cs) : Bool := p.ev t != q.ev t
def outB (p q : Q) (t : Cs) : Bool := p.ev t && !q.ev t
theorem within_told {p q : Q} {n b : Nat} {S : Store} (hp : Qok p) (hq : Qok q) (hl : lvs p + lvs q ≤ 7) (h : Tw n b S) (k : ∀ b' S', (b' = true ↔ ∀ t, okt t → p.ev t = true → q.ev t = true) → Tw n b S' → P (.bl b') S') : Wp (P_is_within [p.enc, q.enc] S) P E :=
  is_within_ok hp hq hl h.noCap fun b' S' a e => k b' S' e (h.app a)
theorem count_told {q : Q} {n b m : Nat} {S : Store} (hq : Qok q) (hm : m ≤ 30) (h : Tw n b S) (k : ∀ S', Tw n b S' → P (.int (cntQ q m : Int)) S') : Wp (P_count_found [q.enc, .int m] S) P E :=
  count_found_ok hq hm h.noCap fun S' a => k S' (h.app a)
theorem FirstOf.nonB {g : Cs → Bool} {d : D} (h : FirstOf g d) : d.isNon = true ↔ ∀ t, okt t → g t = false := by
  rcases h with ⟨rfl, h⟩ | ⟨t, rfl, h1, h2, _⟩
  · exact ⟨fun _ => h, fun _ => rfl⟩
  · exact ⟨fun z => (nomatch z), fun z => by rw [z t h1] at h2; cases h2⟩
theorem gEq_told {g : Cs → Bool} {d : D} {S : Store} (h : FirstOf g d) : gEq d d S = .ok (.bl true) S := by
  rcases h with ⟨rfl, _⟩ | ⟨t, rfl, _⟩
  · rfl
  · simp [gEq, res, D.plain, D.depth, D.eqv]
theorem cntq_eq {p q r : Q} {n : Nat} (h : ∀ t, okt t → (if p.ev t = true then 1 else 0) = (if q.ev t = true then 1 else 0) + (if r.ev t = true then 1 else 0)) : cntQ p n = cntQ q n + cntQ r n := by
  have : ∀ l : List Cs, (∀ t ∈ l, okt t) → l.countP p.ev = l.countP q.ev + l.countP r.ev := fun l => by
    induction l with
    | nil => intro _; rfl
    | cons t l ih =>
      intro hl
      have h1 := h t (hl t (by simp))
      have h2 := ih fun u hu => hl u (List.mem_cons_of_mem _ hu)
      rw [List.countP_cons, List.countP_cons, List.countP_cons, h2]
      omega
  exact this _ fun t ht => (mem_lvT.mp ht).1
theorem cnt_parts {p q : Q} {n : Nat} : cntQ (.and p (.not q)) n + cntQ (.and q (.not p)) n + 2 * cntQ (.and p q) n = cntQ p n + cntQ q n := by
  have h1 : cntQ p n = cntQ (.and p (.not q)) n + cntQ (.and p q) n := cntq_eq fun t _ => by
    rcases Bool.eq_false_or_eq_true (p.ev t) with a | a <;> rcases Bool.eq_false_or_eq_true (q.ev t) with b | b <;> simp [Q.ev, a, b]
  have h2 : cntQ q n = cntQ (.and q (.not p)) n + cntQ (.and p q) n := cntq_eq fun t _ => by
    rcases Bool.eq_false_or_eq_true (p.ev t) with a | a <;> rcases Bool.eq_false_or_eq_true (q.ev t) with b | b <;> simp [Q.ev, a, b]
  omega
end
end WF


set_option linter.all false
set_option maxRecDepth 100000
set_option maxHeartbeats 4000000
/-! # M20: the law of k20 -/
namespace WF
section
variable {P : D → Store → Prop} {E : Nat → Store → Prop}
theorem needed_told {q : Q} {n b : Nat} {S : Store} (hq : Qok q) (h : Tw n b S) (k : ∀ S', Tw n b S' → P (.str (needQ q)) S') : Wp (P_needed_words [q.enc] S) P E :=
  needed_ok hq h.noCap fun S' a => k S' (h.app a)
theorem useless_told {q : Q} {n b : Nat} {S : Store} (hq : Qok q) (h : Tw n b S) (k : ∀ S', Tw n b S' → P (.str (uselQ q)) S') : Wp (P_useless_words [q.enc] S) P E :=
  useless_ok hq h.noCap fun S' a => k S' (h.app a)
theorem allT_lv {n : Nat} : ∀ {m : Nat}, n ≤ m → (allT m).filter (fun t => decide (t.length = n)) = lvT n
  | 0, h => by
    have : n = 0 := by omega
    subst this
    rfl
  | m + 1, h => by
    rw [allT, List.filter_append]
    by_cases e : n = m + 1
    · subst e
      have h1 : (allT m).filter (fun t => decide (t.length = m + 1)) = [] := List.filter_eq_nil_iff.mpr fun t ht => by
        have := (mem_allT.mp ht).2
        simp
        omega
      have h2 : (lvT (m + 1)).filter (fun t => decide (t.length = m + 1)) = lvT (m + 1) := List.filter_eq_self.mpr fun t ht => by
        have := (mem_lvT.mp ht).2
        simpa using this
      rw [h1, h2, List.nil_append]
    · have h2 : (lvT (m + 1)).filter (fun t => decide (t.length = n)) = [] := List.filter_eq_nil_iff.mpr fun t ht => by
        have := (mem_lvT.mp ht).2
        simp
        omega
      rw [allT_lv (by omega), h2, List.append_nil]
theorem good_size {q : Q} {n m : Nat} (h : n ≤ m) : (((allT m).filter q.ev).filter fun t => decide (t.length = n)).length = cntQ q n := by
  unfold cntQ
  rw [List.filter_filter, List.countP_eq_length_filter, ← allT_lv h, List.filter_filter]
  congr 2
  funext t
  rw [Bool.and_comm]
theorem cnt_not {q : Q} {n : Nat} : cntQ q n + cntQ (.not q) n = 4 ^ n := by
  have : ∀ l : List Cs, l.countP q.ev + l.countP (Q.not q).ev = l.length := fun l => by
    induction l with
    | nil => rfl
    | cons t l ih =>
      have b : (Q.not q).ev t = !q.ev t := rfl
      rw [List.countP_cons, List.countP_cons, List.length_cons, ← ih, b]
      rcases Bool.eq_false_or_eq_true (q.ev t) with a | a <;> rw [a] <;> simp <;> omega
  unfold cntQ
  rw [this, lvT_len]
theorem cnt_andor {p q : Q} {n : Nat} : cntQ (.and p q) n + cntQ (.or p q) n = cntQ p n + cntQ q n := by
  have : ∀ l : List Cs, l.countP (Q.and p q).ev + l.countP (Q.or p q).ev = l.countP p.ev + l.countP q.ev := fun l => by
    induction l with
    | nil => rfl
    | cons t l ih =>
      have b : (Q.and p q).ev t = (p.ev t && q.ev t) := rfl
      have c : (Q.or p q).ev t = (p.ev t || q.ev t) := rfl
      rw [List.countP_cons, List.countP_cons, List.countP_cons, List.countP_cons, b, c]
      rcases Bool.eq_false_or_eq_true (p.ev t) with a | a <;> rcases Bool.eq_false_or_eq_true (q.ev t) with d | d <;> rw [a, d] <;> simp <;> omega
  exact this _
theorem cnt_le {p q : Q} {n : Nat} (h : ∀ t, okt t → p.ev t = true → q.ev t = true) : cntQ p n ≤ cntQ q n :=
  List.countP_mono_left fun t ht => h t (mem_lvT.mp ht).1
theorem mem_needQ {q : Q} {c : Nat} (hc : okc c) : (needQ q).contains c = needB q c := by
  rw [Bool.eq_iff_iff, List.contains_iff_mem]
  unfold needQ
  rw [List.mem_filter]
  exact ⟨fun h => h.2, fun h => ⟨by simpa [okc] using hc, h⟩⟩
theorem mem_uselQ {q : Q} {c : Nat} (hc : okc c) : (uselQ q).contains c = uselB q c := by
  rw [Bool.eq_iff_iff, List.contains_iff_mem]
  unfold uselQ
  rw [List.mem_filter]
  exact ⟨fun h => h.2, fun h => ⟨by simpa [okc] using hc, h⟩⟩
theorem abcd_up (f : Nat → Bool) : sortU (([97, 98, 99, 100].filter f).map fun c => [c]) = ([97, 98, 99, 100].filter f).map fun c => [c] := by
  refine up_uniq (sortU_up _) ?_ fun z => sortU_mem
  rw [List.pairwise_map]
  refine List.Pairwise.filter _ ?_
  decide
theorem abcd_len (f : Nat → Bool) : ([97, 98, 99, 100].filter f).length ≤ 4 := Nat.le_trans (List.length_filter_le ..) (by decide)
theorem bList_str {t : Cs} {S : Store} (h : t.length ≤ lim) : bList (.str t) S = .ok (.lst ((t.map fun c => [c]).map D.str)) S := by
  unfold bList
  simp only [res]
  rw [if_pos h, List.map_map]
  rfl
theorem bSortSet_abcd (f : Nat → Bool) {S : Store} : bSortSet (.str ([97, 98, 99, 100].filter f)) S = .ok (.lst ((([97, 98, 99, 100].filter f).map fun c => [c]).map D.str)) S := by
  have := abcd_len f
  rw [textsOf_str, abcd_up, if_pos (by rw [List.length_map]; omega)]
theorem gEq_lsts {ts : List Cs} {S : Store} : gEq (.lst (ts.map D.str)) (.lst (ts.map D.str)) S = .ok (.bl true) S := by
  simp [gEq, res, D.plain, plains_str', D.depth, depths_str', D.eqv, eqvs_refl_str]
/-- nothing is found exactly if all words are needed and useless -/
theorem none_abcd {q : Q} : (needQ q ++ uselQ q = [97, 98, 99, 100, 97, 98, 99, 100]) ↔ ∀ t, okt t → q.ev t = false := by
  constructor
  · intro h t ht
    have h1 := abcd_len (needB q)
    have h2 := abcd_len (uselB q)
    have h3 : (needQ q).length + (uselQ q).length = 8 := by rw [← List.length_append, h]; rfl
    have h4 : (needQ q).length = 4 := by unfold needQ uselQ at *; omega
    have e1 : needQ q = [97, 98, 99, 100] := by
      have := congrArg (List.take 4) h
      rw [List.take_append_of_le_length (by omega), List.take_of_length_le (by omega)] at this
      exact this
    have e2 : uselQ q = [97, 98, 99, 100] := by
      rw [e1] at h
      exact List.append_cancel_left h
    cases e : q.ev t with
    | false => rfl
    | true =>
      have n1 : needB q 97 = true := by
        have : (97 : Nat) ∈ needQ q := by rw [e1]; simp
        exact (List.mem_filter.mp this).2
      have n2 : uselB q 97 = true := by
        have : (97 : Nat) ∈ uselQ q := by rw [e2]; simp
        exact (List.mem_filter.mp this).2
      exact absurd (needB_iff.mp n1 t ht e) (uselB_iff.mp n2 t ht e)
  · intro h
    have a : ∀ c, needB q c = true := fun c => needB_iff.mpr fun u hu e => by rw [h u hu] at e; cases e
    have b : ∀ c, uselB q c = true := fun c => uselB_iff.mpr fun u hu e => by rw [h u hu] at e; cases e
    unfold needQ uselQ
    rw [List.filter_eq_self.mpr fun c _ => a c, List.filter_eq_self.mpr fun c _ => b c]
    rfl
theorem bneF {a b : Bool} {S : Store} (h : a = b) : gNe (.bl a) (.bl b) S = .ok (.bl false) S := by rw [h, gNe_bl', beq_self_eq_true]; rfl
theorem gNe_intF {a b : Int} {S : Store} (h : a = b) : gNe (.int a) (.int b) S = .ok (.bl false) S := by
  subst h
  simp [gNe, gEq, res, D.plain, D.depth, D.eqv]
theorem beqT {a b : Bool} {S : Store} (h : a = b) : gEq (.bl a) (.bl b) S = .ok (.bl true) S := by
  subst h
  cases a <;> rfl
theorem gNotIn_str {v : Nat} {p : Cs} {S : Store} : gNotIn (.str [v]) (.str p) S = .ok (.bl (!p.contains v)) S := by
  unfold gNotIn
  rw [gIn_str]
  rfl
theorem contains_word {c : Nat} {t : Cs} : (Q.word c).ev t = t.contains c := by
  simp only [Q.ev, subIn_one]
theorem law_true (ns : List Int) (hns : ns.length ≤ 63) : ∃ S, L_law [.lst (ns.map D.int)] [] = .ok (.bl true) S := by
  suffices h : Wp (L_law [.lst (ns.map D.int)] []) (fun d _ => d = .bl true) (fun _ _ => False) by
    obtain ⟨a, S, e, h⟩ := h.ex
    exact ⟨S, by rw [e, h]⟩
  unfold L_law
  refine w_run ?_
  walk_at "wf all"
  refine town_ok ns hns [] rfl fun S h => ?_
  walk_at "wf all"
  refine question_ok (d := 2) (b := 999999000) (by decide) (fuel_le (by decide)) (h.mono (by decide)) fun q S qw qd h => ?_
  with_reducible refine w_gn ?_
  with_reducible refine nx_next ?_
  have hq : Qok q := ⟨qw, by omega⟩
  have hnq : Qok (.not q) := ⟨qw, by simp only [Q.depth]; omega⟩
  simp only [startE, setAll, List.map_cons, List.map_nil, List.length_cons, List.length_nil, List.replicate, List.cons_append, List.nil_append, Nat.reduceAdd, Nat.reduceSub, List.set_cons_succ, List.set_cons_zero]
  have hlen5 := allT_len 5
  have hall : ∀ {n : Nat}, ∀ t ∈ allT n, okt t ∧ t.length ≤ n := fun t ht => mem_allT.mp ht
  have e5 : L_texts [.int 5] S = .ok (.lst ((allT 5).map D.str)) S := texts_ok (n := 5) (by decide)
  refine w_seq (w_asg (w_call (w_all1 (w_c (w_all0 (wp_eq e5 (w_gn (nx_next ?_))))))))
  simp only [List.set_cons_succ, List.set_cons_zero]
  refine w_seq (w_asg (wp_eq (texts_filter (ts := allT 5) q.ev rfl (by simp only [lim]; omega) (by simp) fun t ht => ?_) (w_gn (nx_next ?_))))
  · have := (hall t ht).2
    exact wp_to (w_tv (w_call (w_all1 (w_var rfl (w_all1 (w_var rfl (w_all0 (wp_eq (find_q hq (by omega)) ⟨_, rfl, rfl, rfl⟩))))))))
  simp only [List.set_cons_succ, List.set_cons_zero]
  have hgl : ((allT 5).filter q.ev).length ≤ 4096 := Nat.le_trans (List.length_filter_le ..) (by omega)
  have hgt : ∀ t ∈ (allT 5).filter q.ev, okt t ∧ t.length ≤ 5 ∧ q.ev t = true := fun t ht => ⟨(hall t (List.mem_filter.mp ht).1).1, (hall t (List.mem_filter.mp ht).1).2, (List.mem_filter.mp ht).2⟩
  have hgs : ∀ n : Nat, n ≤ 5 → (((allT 5).filter q.ev).filter fun t => decide (t.length = n)).length = cntQ q n := fun n hn => good_size hn
  generalize (allT 5).filter q.ev = good at hgl hgt hgs
  have hT : Tw ns.length 999999000 S := ⟨[], h, rfl⟩
  clear h
  generalize hA : some (D.lst ((allT 5).map D.str)) = txs
  -- sizes up to five
  refine w_seqK (fun ρ S => (∃ x5, ρ = [some (.lst (ns.map D.int)), some (.loc 0), some q.enc, txs, some (.lst (good.map D.str)), x5, none, none, none, none, none, none, none, none, none, none]) ∧ Tw ns.length 999999000 S) ?_ ?_
  · refine w_for (w_r1 (w_c ⟨6, rfl, by decide, by decide, rfl, ?_⟩))
    refine w_forL (fun ds ρ S => (∃ j : Nat, j + ds.length = 6 ∧ ds = (List.range' j ds.length).map (fun i : Nat => D.int (i : Int))) ∧ (∃ x5, ρ = [some (.lst (ns.map D.int)), some (.loc 0), some q.enc, txs, some (.lst (good.map D.str)), x5, none, none, none, none, none, none, none, none, none, none]) ∧ Tw ns.length 999999000 S)
      ⟨⟨0, rfl, rfl⟩, ⟨none, rfl⟩, hT⟩ (fun ρ S ⟨_, h1, h2⟩ => ⟨_, rfl, h1, h2⟩) ?_
    rintro d ds ρ S ⟨⟨j, hj, hds⟩, ⟨x5, rfl⟩, hT⟩
    rw [List.length_cons] at hj
    rw [List.length_cons, List.range'_succ, List.map_cons] at hds
    obtain ⟨rfl, hds'⟩ := List.cons.inj hds
    refine w_gn ?_
    simp only [List.set_cons_succ, List.set_cons_zero]
    refine w_if (w_tv (w_bin (w_call (w_all1 (w_var rfl (w_all1 (w_var rfl (w_all0 ?_))))))))
    refine count_told hq (by omega) hT fun S hT => ?_
    refine w_call (w_all1 (wp_eq (texts_filter (ts := good) (fun t => decide (t.length = j)) rfl (by simp only [lim]; omega) (by simp) fun t ht => ?_) (w_all0 (w_f1 (wp_eq bLen_lst ?_)))))
    · have := (hgt t ht).2.1
      refine wp_to (w_tv (w_bin (w_call (w_all1 (w_var rfl (w_all0 (w_f1 (wp_eq (len_tx (by simp only [lim]; omega)) (w_var rfl (wp_eq (a := .bl (decide ((t.length : Int) = (j : Int)))) (S := S) ?_ ⟨_, rfl, ?_, rfl⟩)))))))))) 
      · simp [gEq, res, D.plain, D.depth, D.eqv]
        rfl
      · rw [Bool.eq_iff_iff, decide_eq_true_eq, decide_eq_true_eq]
        omega
    · rw [List.length_map, hgs j (by omega)]
      exact wp_eq (gNe_intF rfl) ⟨_, rfl, c_ff (w_nil ⟨⟨j + 1, by omega, hds'⟩, ⟨_, rfl⟩, hT⟩)⟩
  rintro ρ S ⟨⟨x5, rfl⟩, R, hTn, hR⟩
  walk_at "wf all"
  refine draw_ok (b := 999990000) (hTn.mono (by omega)) (by decide) (by decide) fun r S h0 h1 hTn => ?_
  obtain ⟨n, rfl⟩ : ∃ n : Nat, r = n := ⟨r.toNat, by omega⟩
  have hn : n ≤ 30 := by omega
  with_reducible refine w_gn ?_
  with_reducible refine nx_next ?_
  simp only [List.set_cons_succ, List.set_cons_zero]
  refine w_seq (w_asg (w_c (w_gn (nx_next ?_))))
  simp only [List.set_cons_succ, List.set_cons_zero]
  refine w_seqK (fun ρ S' => S' = S ∧ ∃ x7, ρ = [some (.lst (ns.map D.int)), some (.loc 0), some q.enc, txs, some (.lst (good.map D.str)), some (.int (n : Int)), some (.int ((4 ^ n : Nat) : Int)), x7, none, none, none, none, none, none, none, none]) ?_ ?_
  · refine w_for (w_r1 (w_var rfl ⟨(n : Int), rfl, by omega, by omega, rfl, ?_⟩))
    rw [Int.toNat_natCast]
    refine w_forL (fun ds ρ S' => S' = S ∧ ∃ (j : Nat) (x7 : Option D), j + ds.length = n ∧ ρ = [some (.lst (ns.map D.int)), some (.loc 0), some q.enc, txs, some (.lst (good.map D.str)), some (.int (n : Int)), some (.int ((4 ^ j : Nat) : Int)), x7, none, none, none, none, none, none, none, none])
      ⟨rfl, 0, none, by simp [rngD], rfl⟩ ?_ ?_
    · rintro ρ S' ⟨e, j, x7, hj, rfl⟩
      have : j = n := by simpa using hj
      subst this
      exact ⟨_, rfl, e, x7, rfl⟩
    · rintro d ds ρ S' ⟨rfl, j, x7, hj, rfl⟩
      rw [List.length_cons] at hj
      with_reducible refine w_gn ?_
      simp only [List.set_cons_succ, List.set_cons_zero]
      have hm : gMul (.int ((4 ^ j : Nat) : Int)) (.int 4) S' = .ok (.int (((4 ^ j : Nat) : Int) * 4)) S' := gMul_ok (.inr ⟨by decide, by decide⟩)
      rw [show ((4 ^ j : Nat) : Int) * 4 = ((4 ^ (j + 1) : Nat) : Int) by rw [Nat.pow_succ]; omega] at hm
      have hs : ∀ (x y : Int), gMul (.int x) (.int 4) S' = .ok (.int y) S' → sAsg (dBin gMul (dVar 6) (dC (D.int 4))) (gName 6) [some (.lst (ns.map D.int)), some (.loc 0), some q.enc, txs, some (.lst (good.map D.str)), some (.int (n : Int)), some (.int x), some d, none, none, none, none, none, none, none, none] S' =
          .ok (.next [some (.lst (ns.map D.int)), some (.loc 0), some q.enc, txs, some (.lst (good.map D.str)), some (.int (n : Int)), some (.int y), some d, none, none, none, none, none, none, none, none]) S' := fun x y e => by
        unfold sAsg dBin dVar dC gName
        simp only [List.getElem?_cons_succ, List.getElem?_cons_zero, Res.ok_bind, e, List.set_cons_succ, List.set_cons_zero]
      with_reducible refine wp_eq (hs _ _ hm) ?_
      exact ⟨rfl, j + 1, some d, by omega, rfl⟩
  rintro ρ S' ⟨rfl, x7, rfl⟩
  have hT : Tw ns.length 999990000 S' := ⟨R, hTn, hR⟩
  clear hTn hR
  refine w_seqJ (fun S' => Tw ns.length 999990000 S') ?_ fun S hT => ?_
  · refine w_if (w_tv (w_bin (w_bin (w_call (w_all1 (w_var rfl (w_all1 (w_var rfl (w_all0 ?_)))))))))
    refine count_told hq hn hT fun S hT => ?_
    refine w_call (w_all1 (w_tup (w_all1 (w_c (w_all1 (w_var rfl (w_all0 (w_all1 (w_var rfl (w_all0 ?_)))))))))) 
    refine count_told hnq hn hT fun S hT => wp_eq gAdd_ok (w_var rfl (wp_eq (gNe_intF ?_) ⟨_, rfl, c_ff (w_nil ⟨rfl, hT⟩)⟩))
    have := cnt_not (q := q) (n := n)
    omega
  -- another question
  obtain ⟨R, hTn, hR⟩ := hT
  walk_at "wf all"
  refine question_ok (d := 2) (b := 999980000) (by decide) (fuel_le (by decide)) (hTn.mono (by decide)) fun o S ow od hTn => ?_
  with_reducible refine w_gn ?_
  with_reducible refine nx_next ?_
  simp only [List.set_cons_succ, List.set_cons_zero]
  have ho : Qok o := ⟨ow, by omega⟩
  have h3 : Qok (.and q o) := ⟨⟨qw, ow⟩, by simp only [Q.depth]; omega⟩
  have h4 : Qok (.or q o) := ⟨⟨qw, ow⟩, by simp only [Q.depth]; omega⟩
  have hl2 : lvs q + lvs o ≤ 7 := by
    have := lvs2 qd
    have := lvs2 od
    omega
  have hT : Tw ns.length 999980000 S := ⟨R, hTn, hR⟩
  clear hTn hR
  refine w_seq (w_par (w_all1 (w_call (w_all1 (w_tup (w_all1 (w_c (w_all1 (w_var rfl (w_all1 (w_var rfl (w_all0 (w_all1 (w_var rfl (w_all0 ?_)))))))))))))))
  refine count_told h3 hn hT fun S hT => ?_
  refine w_all1 (w_call (w_all1 (w_tup (w_all1 (w_c (w_all1 (w_var rfl (w_all1 (w_var rfl (w_all0 (w_all1 (w_var rfl (w_all0 ?_)))))))))))))
  refine count_told h4 hn hT fun S hT => w_all0 (nx_next ?_)
  simp only [setAll, List.set_cons_succ, List.set_cons_zero]
  refine w_seqJ (fun S' => Tw ns.length 999980000 S') ?_ fun S hT => ?_
  · refine w_if (w_tv (w_bin (w_bin (w_var rfl (w_var rfl (wp_eq gAdd_ok (w_bin (w_call (w_all1 (w_var rfl (w_all1 (w_var rfl (w_all0 ?_)))))))))))))
    refine count_told hq hn hT fun S hT => ?_
    refine w_call (w_all1 (w_var rfl (w_all1 (w_var rfl (w_all0 ?_)))))
    refine count_told ho hn hT fun S hT => wp_eq gAdd_ok (wp_eq (gNe_intF ?_) ⟨_, rfl, c_ff (w_nil ⟨rfl, hT⟩)⟩)
    have := cnt_andor (p := q) (q := o) (n := n)
    omega
  refine w_seqJ (fun S' => Tw ns.length 999980000 S') ?_ fun S hT => ?_
  · refine w_if (w_tand (w_tv (w_call (w_all1 (w_var rfl (w_all1 (w_var rfl (w_all0 ?_))))))))
    refine within_told hq ho hl2 hT fun b S hb hT => ⟨_, rfl, fun e => ?_, fun e => c_ff (w_nil ⟨rfl, hT⟩)⟩
    refine w_tv (w_bin (w_call (w_all1 (w_var rfl (w_all1 (w_var rfl (w_all0 ?_))))))) 
    refine count_told hq hn hT fun S hT => ?_
    refine w_call (w_all1 (w_var rfl (w_all1 (w_var rfl (w_all0 ?_)))))
    refine count_told ho hn hT fun S hT => wp_eq (a := .bl false) (S := S) ?_ ⟨_, rfl, c_ff (w_nil ⟨rfl, hT⟩)⟩
    have := cnt_le (n := n) (hb.mp e)
    show (Res.ok (D.bl (decide _)) S : Res D) = _
    rw [decide_eq_false (by omega)]
  -- needed and useless words
  refine w_seq (w_par (w_all1 (w_call (w_all1 (w_var rfl (w_all0 ?_))))))
  refine needed_told hq hT fun S hT => ?_
  refine w_all1 (w_call (w_all1 (w_var rfl (w_all0 ?_))))
  refine useless_told hq hT fun S hT => w_all0 (nx_next ?_)
  simp only [setAll, List.set_cons_succ, List.set_cons_zero]
  have hw : ∀ c, okc c → Qok (.and q (.word c)) ∧ Qok (.and q (.not (.word c))) := fun c hc => ⟨⟨⟨qw, hc⟩, by simp only [Q.depth]; omega⟩, ⟨⟨qw, hc⟩, by simp only [Q.depth]; omega⟩⟩
  have hnl : (needQ q).length ≤ 4 := abcd_len _
  have hul : (uselQ q).length ≤ 4 := abcd_len _
  refine w_seqK (fun ρ S => (∃ x9 x14, ρ = [some (.lst (ns.map D.int)), some (.loc 0), some q.enc, txs, some (.lst (good.map D.str)), some (.int (n : Int)), some (.int ((4 ^ n : Nat) : Int)), x7, some o.enc, x9, some (.int (cntQ (.and q o) n : Int)), some (.int (cntQ (.or q o) n : Int)), some (.str (needQ q)), some (.str (uselQ q)), x14, none]) ∧ Tw ns.length 999980000 S) ?_ ?_
  · refine w_wordsN (fun cs ρ S => (∃ ds, [97, 98, 99, 100] = ds ++ cs) ∧ (∃ x9 x14, ρ = [some (.lst (ns.map D.int)), some (.loc 0), some q.enc, txs, some (.lst (good.map D.str)), some (.int (n : Int)), some (.int ((4 ^ n : Nat) : Int)), x7, some o.enc, x9, some (.int (cntQ (.and q o) n : Int)), some (.int (cntQ (.or q o) n : Int)), some (.str (needQ q)), some (.str (uselQ q)), x14, none]) ∧ Tw ns.length 999980000 S)
      ⟨⟨[], rfl⟩, ⟨none, none, rfl⟩, hT⟩ (fun ρ S ⟨_, h1, h2⟩ => ⟨_, rfl, h1, h2⟩) ?_
    rintro c cs ρ S ⟨⟨ds, hds⟩, ⟨x9, x14, rfl⟩, hT⟩
    have hc : okc c := by
      have : c ∈ [97, 98, 99, 100] := by rw [hds]; simp
      simpa [okc] using this
    obtain ⟨hq1, hq2⟩ := hw c hc
    simp only [List.set_cons_succ, List.set_cons_zero]
    refine w_seq (w_asg (w_tup (w_all1 (w_c (w_all1 (w_var rfl (w_all1 (w_tup (w_all1 (w_c (w_all1 (w_tup (w_all1 (w_c (w_all1 (w_var rfl (w_all0 (w_all0 (w_all0 (w_gn (nx_next ?_)))))))))))))))))))))
    simp only [List.set_cons_succ, List.set_cons_zero]
    refine w_seqJ (fun S' => Tw ns.length 999980000 S') ?_ fun S hT => ?_
    · refine w_if (w_tor (w_tv (w_bin (w_bin (w_var rfl (w_var rfl (wp_eq gIn_str (w_un (w_call (w_all1 (w_var rfl (w_all0 ?_))))))))))))
      refine found_told' hq2 hT fun d S hd hT => wp_eq (a := .bl d.isNon) (S := S) rfl (wp_eq (bneF ?_) ⟨_, rfl, c_of ?_⟩)
      · rw [mem_needQ hc, Bool.eq_iff_iff, needB_iff, hd.nonB]
        refine forall_congr' fun t => forall_congr' fun ht => ?_
        have e : (Q.and q (.not (.word c))).ev t = (q.ev t && !t.contains c) := by
          rw [← contains_word]
          rfl
        rw [e, ← List.contains_iff_mem]
        rcases Bool.eq_false_or_eq_true (q.ev t) with a | a <;> rcases Bool.eq_false_or_eq_true (t.contains c) with b | b <;> rw [a, b] <;> simp
      · refine w_tv (w_bin (w_call (w_all1 (w_var rfl (w_all0 (w_f1 (wp_eq (bList_str (by simp only [lim]; omega)) ?_)))))))
        exact w_call (w_all1 (w_var rfl (w_all0 (w_f1 (wp_eq (bSortSet_abcd (needB q)) (wp_eq gNe_lsts ⟨_, rfl, c_ff (w_nil ⟨rfl, hT⟩)⟩))))))
    refine w_seqJ (fun S' => Tw ns.length 999980000 S') ?_ fun S hT => ?_
    · refine w_if (w_tv (w_bin (w_bin (w_var rfl (w_var rfl (wp_eq gIn_str (w_un (w_call (w_all1 (w_tup (w_all1 (w_c (w_all1 (w_var rfl (w_all1 (w_tup (w_all1 (w_c (w_all1 (w_var rfl (w_all0 (w_all0 (w_all0 ?_)))))))))))))))))))))))
      refine found_told' hq1 hT fun d S hd hT => wp_eq (a := .bl d.isNon) (S := S) rfl (wp_eq (bneF ?_) ⟨_, rfl, c_ff (w_nil ⟨rfl, hT⟩)⟩)
      rw [mem_uselQ hc, Bool.eq_iff_iff, uselB_iff, hd.nonB]
      refine forall_congr' fun t => forall_congr' fun ht => ?_
      have e : (Q.and q (.word c)).ev t = (q.ev t && t.contains c) := by
        rw [← contains_word]
        rfl
      rw [e, ← List.contains_iff_mem]
      rcases Bool.eq_false_or_eq_true (q.ev t) with a | a <;> rcases Bool.eq_false_or_eq_true (t.contains c) with b | b <;> rw [a, b] <;> simp
    refine w_seqJ (fun S' => S' = S) ?_ fun S' e => ?_
    · refine w_if (w_tand (w_tv (w_bin (w_var rfl (w_var rfl (wp_eq gIn_str ⟨_, rfl, fun e => ?_, fun e => c_ff (w_nil ⟨rfl, rfl⟩)⟩))))))
      rw [mem_needQ hc] at e
      refine w_tv (w_bin (wp_eq (texts_filter (ts := good) (fun t => !t.contains c) rfl (by simp only [lim]; omega) (by simp) fun t ht => ?_) (w_lst (w_all0 (wp_eq gNe_tx ⟨_, rfl, ?_⟩)))))
      · exact wp_to (w_tv (w_bin (w_var rfl (w_var rfl (wp_eq gNotIn_str ⟨_, rfl, rfl, rfl⟩)))))
      · rw [List.filter_eq_nil_iff.mpr fun t ht => by
          obtain ⟨h1, _, h2⟩ := hgt t ht
          simpa using needB_iff.mp e t h1 h2]
        exact c_ff (w_nil ⟨rfl, rfl⟩)
    subst e
    refine w_if (w_tand (w_tv (w_bin (w_var rfl (w_var rfl (wp_eq gIn_str ⟨_, rfl, fun e => ?_, fun e => c_ff (w_nil ⟨_, rfl, ⟨ds ++ [c], by rw [hds]; simp⟩, ⟨_, _, rfl⟩, hT⟩)⟩))))))
    rw [mem_uselQ hc] at e
    refine w_tv (w_bin (wp_eq (texts_filter (ts := good) (fun t => t.contains c) rfl (by simp only [lim]; omega) (by simp) fun t ht => ?_) (w_lst (w_all0 (wp_eq gNe_tx ⟨_, rfl, ?_⟩)))))
    · exact wp_to (w_tv (w_bin (w_var rfl (w_var rfl (wp_eq gIn_str ⟨_, rfl, rfl, rfl⟩)))))
    · rw [List.filter_eq_nil_iff.mpr fun t ht => by
        obtain ⟨h1, _, h2⟩ := hgt t ht
        simpa using uselB_iff.mp e t h1 h2]
      exact c_ff (w_nil ⟨_, rfl, ⟨ds ++ [c], by rw [hds]; simp⟩, ⟨_, _, rfl⟩, hT⟩)
  rintro ρ S ⟨⟨x9, x14, rfl⟩, hT⟩
  refine w_ret (w_and (w_bin (w_call (w_all1 (w_var rfl (w_all0 (w_f1 (wp_eq (bList_str (by simp only [lim]; omega)) ?_))))))))
  refine w_call (w_all1 (w_var rfl (w_all0 (w_f1 (wp_eq (bSortSet_abcd (uselB q)) (wp_eq gEq_lsts ⟨_, rfl, fun _ => ?_, fun z => nomatch z⟩))))))
  refine w_bin (w_un (w_call (w_all1 (w_var rfl (w_all0 ?_)))))
  refine found_told' hq hT fun d S hd hT => wp_eq (a := .bl d.isNon) (S := S) rfl ?_
  refine w_bin (w_bin (w_var rfl (w_var rfl (wp_eq (gAdd_str (by simp only [lim]; omega)) (w_c (wp_eq gEq_str' (wp_eq (beqT ?_) rfl)))))))
  rw [Bool.eq_iff_iff, hd.nonB, beq_iff_eq]
  exact none_abcd.symm
end
end WF


set_option Elab.async false
set_option linter.all false
set_option maxRecDepth 100000
set_option maxHeartbeats 4000000
namespace WF
open PySem L2 PyProof.Rows
theorem all_mk {l : PySem.W.OpenLaw} {w : World} {K : PySem.W.Frag} {h : Heap} {mg : PySem.Str → Option Value} {fa : Addr} {q : Program} (X : K.In h) (G : h.Ns mainGlobals mg) (hfa : mg "law" = some (.ref fa)) (tabs : ∀ (x : PySem.Str) (c P : Addr), ((recsOf q).any fun e => e.name == x) = true → TabK K x c P → PySem.W.CodeHd h c P ∧ h.get? P = some { cls := .none, data := .fields #[] }) {C_InvalidQuestion C_InvalidNumber C_Reader f_is_between f_are_words f_is_simple f_is_at_most f_is_question f_check_question f_Reader_init f_Reader_collect f_Reader_start f_Reader_step f_Reader_truth f_Reader_answers f_Reader_first f_window f_stepped f_check_size f_count_found f_found_sets f_sets_found f_needed_words f_useless_words f_first_with f_is_within f_first_found f__law_town f__law_draw f__law_pick f__law_word f__law_simple f__law_question f__law_finds f__law_texts f_law c1_first_with P1_first_with c1_is_within P1_is_within c1_first_found P1_first_found : Addr}
    (z_all : PySem.W.nsIn K mainGlobals "all" = some none)
    (z_any : PySem.W.nsIn K mainGlobals "any" = some none)
    (z_bool : PySem.W.nsIn K mainGlobals "bool" = some none)
    (z_int : PySem.W.nsIn K mainGlobals "int" = some none)
    (z_isinstance : PySem.W.nsIn K mainGlobals "isinstance" = some none)
    (z_len : PySem.W.nsIn K mainGlobals "len" = some none)
    (z_list : PySem.W.nsIn K mainGlobals "list" = some none)
    (z_min : PySem.W.nsIn K mainGlobals "min" = some none)
    (z_range : PySem.W.nsIn K mainGlobals "range" = some none)
    (z_set : PySem.W.nsIn K mainGlobals "set" = some none)
    (z_sorted : PySem.W.nsIn K mainGlobals "sorted" = some none)
    (z_str : PySem.W.nsIn K mainGlobals "str" = some none)
    (z_sum : PySem.W.nsIn K mainGlobals "sum" = some none)
    (z_tuple : PySem.W.nsIn K mainGlobals "tuple" = some none)
    (z_zip : PySem.W.nsIn K mainGlobals "zip" = some none)
    {tk_FOUND : Tok} (gc_FOUND : PySem.W.nsIn K mainGlobals "FOUND" = some (some (.str "!" tk_FOUND)))
    {tk_WORDS : Tok} (gc_WORDS : PySem.W.nsIn K mainGlobals "WORDS" = some (some (.str "abcd" tk_WORDS)))
    {tk_DEEP : Tok} (gc_DEEP : PySem.W.nsIn K mainGlobals "DEEP" = some (some (.int 3 tk_DEEP)))
    (xg_InvalidQuestion : PySem.W.nsIn K mainGlobals "InvalidQuestion" = some (some (.ref C_InvalidQuestion))) (xe_InvalidQuestion : PySem.W.excIn K C_InvalidQuestion [.type "ValueError", .type "Exception", .type "BaseException", .type "object"] "ValueError.__new__" = true) (xk_InvalidQuestion : PySem.W.keepIn K (.ref C_InvalidQuestion) = true) (xs_InvalidQuestion : PySem.W.subIn K (.ref C_InvalidQuestion) (.type "BaseException") = some true) (xt_InvalidQuestion : PySem.W.typeIn K (.ref C_InvalidQuestion) = some (.type "type"))
    (xg_InvalidNumber : PySem.W.nsIn K mainGlobals "InvalidNumber" = some (some (.ref C_InvalidNumber))) (xe_InvalidNumber : PySem.W.excIn K C_InvalidNumber [.type "ValueError", .type "Exception", .type "BaseException", .type "object"] "ValueError.__new__" = true) (xk_InvalidNumber : PySem.W.keepIn K (.ref C_InvalidNumber) = true) (xs_InvalidNumber : PySem.W.subIn K (.ref C_InvalidNumber) (.type "BaseException") = some true) (xt_InvalidNumber : PySem.W.typeIn K (.ref C_InvalidNumber) = some (.type "type"))
    (xg_Reader : PySem.W.nsIn K mainGlobals "Reader" = some (some (.ref C_Reader))) (cp_Reader : PySem.W.plainGet K C_Reader Str.empty = true) (ch_Reader : PySem.W.hasDictIn K C_Reader = true) (co_Reader : PySem.W.plainOver K C_Reader = true) (ca_Reader : PySem.W.findIn K (.ref C_Reader) "__setattr__" = some (some (.builtin "object.__setattr__"))) (cm_Reader : PySem.W.makesIn K C_Reader = true) (ck_Reader : PySem.W.keepIn K (.ref C_Reader) = true)
    (nf_Reader_told : PySem.W.findIn K (.ref C_Reader) "told" = some none)
    (nf_Reader_questions : PySem.W.findIn K (.ref C_Reader) "questions" = some none)
    (nf_Reader_simple : PySem.W.findIn K (.ref C_Reader) "simple" = some none)
    (nf_Reader_known : PySem.W.findIn K (.ref C_Reader) "known" = some none)
    {od_is_between an_is_between : Option Addr} {sl_is_between : Array (Option Value)} {oc_is_between kV_is_between dc_is_between pm_is_between cd_is_between ct_is_between : Value} (a_is_between : PySem.W.nsIn K mainGlobals "is_between" = some (some (.ref f_is_between))) (l_is_between : K.lookup f_is_between = some ⟨oc_is_between, od_is_between, .func (PySem.W.fnOf "is_between" "is_between" (defArgs (top 7)) (defBody (top 7)) (defScope (top 7)) .none kV_is_between dc_is_between pm_is_between an_is_between cd_is_between ct_is_between), sl_is_between⟩) (c_is_between : PySem.W.codeIn K cd_is_between "is_between" = true) (k_is_between : PySem.W.keepIn K (.ref f_is_between) = true)
    {od_are_words an_are_words : Option Addr} {sl_are_words : Array (Option Value)} {oc_are_words kV_are_words dc_are_words pm_are_words cd_are_words ct_are_words : Value} (a_are_words : PySem.W.nsIn K mainGlobals "are_words" = some (some (.ref f_are_words))) (l_are_words : K.lookup f_are_words = some ⟨oc_are_words, od_are_words, .func (PySem.W.fnOf "are_words" "are_words" (defArgs (top 8)) (defBody (top 8)) (defScope (top 8)) .none kV_are_words dc_are_words pm_are_words an_are_words cd_are_words ct_are_words), sl_are_words⟩) (c_are_words : PySem.W.codeIn K cd_are_words "are_words" = true) (k_are_words : PySem.W.keepIn K (.ref f_are_words) = true)
    {od_is_simple an_is_simple : Option Addr} {sl_is_simple : Array (Option Value)} {oc_is_simple kV_is_simple dc_is_simple pm_is_simple cd_is_simple ct_is_simple : Value} (a_is_simple : PySem.W.nsIn K mainGlobals "is_simple" = some (some (.ref f_is_simple))) (l_is_simple : K.lookup f_is_simple = some ⟨oc_is_simple, od_is_simple, .func (PySem.W.fnOf "is_simple" "is_simple" (defArgs (top 9)) (defBody (top 9)) (defScope (top 9)) .none kV_is_simple dc_is_simple pm_is_simple an_is_simple cd_is_simple ct_is_simple), sl_is_simple⟩) (c_is_simple : PySem.W.codeIn K cd_is_simple "is_simple" = true) (k_is_simple : PySem.W.keepIn K (.ref f_is_simple) = true)
    {od_is_at_most an_is_at_most : Option Addr} {sl_is_at_most : Array (Option Value)} {oc_is_at_most kV_is_at_most dc_is_at_most pm_is_at_most cd_is_at_most ct_is_at_most : Value} (a_is_at_most : PySem.W.nsIn K mainGlobals "is_at_most" = some (some (.ref f_is_at_most))) (l_is_at_most : K.lookup f_is_at_most = some ⟨oc_is_at_most, od_is_at_most, .func (PySem.W.fnOf "is_at_most" "is_at_most" (defArgs (top 10)) (defBody (top 10)) (defScope (top 10)) .none kV_is_at_most dc_is_at_most pm_is_at_most an_is_at_most cd_is_at_most ct_is_at_most), sl_is_at_most⟩) (c_is_at_most : PySem.W.codeIn K cd_is_at_most "is_at_most" = true) (k_is_at_most : PySem.W.keepIn K (.ref f_is_at_most) = true)
    {od_is_question an_is_question : Option Addr} {sl_is_question : Array (Option Value)} {oc_is_question kV_is_question dc_is_question pm_is_question cd_is_question ct_is_question : Value} (a_is_question : PySem.W.nsIn K mainGlobals "is_question" = some (some (.ref f_is_question))) (l_is_question : K.lookup f_is_question = some ⟨oc_is_question, od_is_question, .func (PySem.W.fnOf "is_question" "is_question" (defArgs (top 11)) (defBody (top 11)) (defScope (top 11)) .none kV_is_question dc_is_question pm_is_question an_is_question cd_is_question ct_is_question), sl_is_question⟩) (c_is_question : PySem.W.codeIn K cd_is_question "is_question" = true) (k_is_question : PySem.W.keepIn K (.ref f_is_question) = true)
    {od_check_question an_check_question : Option Addr} {sl_check_question : Array (Option Value)} {oc_check_question kV_check_question dc_check_question pm_check_question cd_check_question ct_check_question : Value} (a_check_question : PySem.W.nsIn K mainGlobals "check_question" = some (some (.ref f_check_question))) (l_check_question : K.lookup f_check_question = some ⟨oc_check_question, od_check_question, .func (PySem.W.fnOf "check_question" "check_question" (defArgs (top 12)) (defBody (top 12)) (defScope (top 12)) .none kV_check_question dc_check_question pm_check_question an_check_question cd_check_question ct_check_question), sl_check_question⟩) (c_check_question : PySem.W.codeIn K cd_check_question "check_question" = true) (k_check_question : PySem.W.keepIn K (.ref f_check_question) = true)
    {od_Reader_init an_Reader_init : Option Addr} {sl_Reader_init : Array (Option Value)} {oc_Reader_init kV_Reader_init dc_Reader_init pm_Reader_init cd_Reader_init ct_Reader_init : Value} (a_Reader_init : PySem.W.findIn K (.ref C_Reader) "__init__" = some (some (.ref f_Reader_init))) (i_Reader_init : PySem.W.isFn K (.ref f_Reader_init) = true) (l_Reader_init : K.lookup f_Reader_init = some ⟨oc_Reader_init, od_Reader_init, .func (PySem.W.fnOf "__init__" "Reader.__init__" (defArgs s_Reader_init) (defBody s_Reader_init) (defScope s_Reader_init) .none kV_Reader_init dc_Reader_init pm_Reader_init an_Reader_init cd_Reader_init ct_Reader_init), sl_Reader_init⟩) (c_Reader_init : PySem.W.codeIn K cd_Reader_init "Reader.__init__" = true) (k_Reader_init : PySem.W.keepIn K (.ref f_Reader_init) = true)
    {od_Reader_collect an_Reader_collect : Option Addr} {sl_Reader_collect : Array (Option Value)} {oc_Reader_collect kV_Reader_collect dc_Reader_collect pm_Reader_collect cd_Reader_collect ct_Reader_collect : Value} (a_Reader_collect : PySem.W.findIn K (.ref C_Reader) "collect" = some (some (.ref f_Reader_collect))) (i_Reader_collect : PySem.W.isFn K (.ref f_Reader_collect) = true) (l_Reader_collect : K.lookup f_Reader_collect = some ⟨oc_Reader_collect, od_Reader_collect, .func (PySem.W.fnOf "collect" "Reader.collect" (defArgs s_Reader_collect) (defBody s_Reader_collect) (defScope s_Reader_collect) .none kV_Reader_collect dc_Reader_collect pm_Reader_collect an_Reader_collect cd_Reader_collect ct_Reader_collect), sl_Reader_collect⟩) (c_Reader_collect : PySem.W.codeIn K cd_Reader_collect "Reader.collect" = true) (k_Reader_collect : PySem.W.keepIn K (.ref f_Reader_collect) = true)
    {od_Reader_start an_Reader_start : Option Addr} {sl_Reader_start : Array (Option Value)} {oc_Reader_start kV_Reader_start dc_Reader_start pm_Reader_start cd_Reader_start ct_Reader_start : Value} (a_Reader_start : PySem.W.findIn K (.ref C_Reader) "start" = some (some (.ref f_Reader_start))) (i_Reader_start : PySem.W.isFn K (.ref f_Reader_start) = true) (l_Reader_start : K.lookup f_Reader_start = some ⟨oc_Reader_start, od_Reader_start, .func (PySem.W.fnOf "start" "Reader.start" (defArgs s_Reader_start) (defBody s_Reader_start) (defScope s_Reader_start) .none kV_Reader_start dc_Reader_start pm_Reader_start an_Reader_start cd_Reader_start ct_Reader_start), sl_Reader_start⟩) (c_Reader_start : PySem.W.codeIn K cd_Reader_start "Reader.start" = true) (k_Reader_start : PySem.W.keepIn K (.ref f_Reader_start) = true)
    {od_Reader_step an_Reader_step : Option Addr} {sl_Reader_step : Array (Option Value)} {oc_Reader_step kV_Reader_step dc_Reader_step pm_Reader_step cd_Reader_step ct_Reader_step : Value} (a_Reader_step : PySem.W.findIn K (.ref C_Reader) "step" = some (some (.ref f_Reader_step))) (i_Reader_step : PySem.W.isFn K (.ref f_Reader_step) = true) (l_Reader_step : K.lookup f_Reader_step = some ⟨oc_Reader_step, od_Reader_step, .func (PySem.W.fnOf "step" "Reader.step" (defArgs s_Reader_step) (defBody s_Reader_step) (defScope s_Reader_step) .none kV_Reader_step dc_Reader_step pm_Reader_step an_Reader_step cd_Reader_step ct_Reader_step), sl_Reader_step⟩) (c_Reader_step : PySem.W.codeIn K cd_Reader_step "Reader.step" = true) (k_Reader_step : PySem.W.keepIn K (.ref f_Reader_step) = true)
    {od_Reader_truth an_Reader_truth : Option Addr} {sl_Reader_truth : Array (Option Value)} {oc_Reader_truth kV_Reader_truth dc_Reader_truth pm_Reader_truth cd_Reader_truth ct_Reader_truth : Value} (a_Reader_truth : PySem.W.findIn K (.ref C_Reader) "truth" = some (some (.ref f_Reader_truth))) (i_Reader_truth : PySem.W.isFn K (.ref f_Reader_truth) = true) (l_Reader_truth : K.lookup f_Reader_truth = some ⟨oc_Reader_truth, od_Reader_truth, .func (PySem.W.fnOf "truth" "Reader.truth" (defArgs s_Reader_truth) (defBody s_Reader_truth) (defScope s_Reader_truth) .none kV_Reader_truth dc_Reader_truth pm_Reader_truth an_Reader_truth cd_Reader_truth ct_Reader_truth), sl_Reader_truth⟩) (c_Reader_truth : PySem.W.codeIn K cd_Reader_truth "Reader.truth" = true) (k_Reader_truth : PySem.W.keepIn K (.ref f_Reader_truth) = true)
    {od_Reader_answers an_Reader_answers : Option Addr} {sl_Reader_answers : Array (Option Value)} {oc_Reader_answers kV_Reader_answers dc_Reader_answers pm_Reader_answers cd_Reader_answers ct_Reader_answers : Value} (a_Reader_answers : PySem.W.findIn K (.ref C_Reader) "answers" = some (some (.ref f_Reader_answers))) (i_Reader_answers : PySem.W.isFn K (.ref f_Reader_answers) = true) (l_Reader_answers : K.lookup f_Reader_answers = some ⟨oc_Reader_answers, od_Reader_answers, .func (PySem.W.fnOf "answers" "Reader.answers" (defArgs s_Reader_answers) (defBody s_Reader_answers) (defScope s_Reader_answers) .none kV_Reader_answers dc_Reader_answers pm_Reader_answers an_Reader_answers cd_Reader_answers ct_Reader_answers), sl_Reader_answers⟩) (c_Reader_answers : PySem.W.codeIn K cd_Reader_answers "Reader.answers" = true) (k_Reader_answers : PySem.W.keepIn K (.ref f_Reader_answers) = true)
    {od_Reader_first an_Reader_first : Option Addr} {sl_Reader_first : Array (Option Value)} {oc_Reader_first kV_Reader_first dc_Reader_first pm_Reader_first cd_Reader_first ct_Reader_first : Value} (a_Reader_first : PySem.W.findIn K (.ref C_Reader) "first" = some (some (.ref f_Reader_first))) (i_Reader_first : PySem.W.isFn K (.ref f_Reader_first) = true) (l_Reader_first : K.lookup f_Reader_first = some ⟨oc_Reader_first, od_Reader_first, .func (PySem.W.fnOf "first" "Reader.first" (defArgs s_Reader_first) (defBody s_Reader_first) (defScope s_Reader_first) .none kV_Reader_first dc_Reader_first pm_Reader_first an_Reader_first cd_Reader_first ct_Reader_first), sl_Reader_first⟩) (c_Reader_first : PySem.W.codeIn K cd_Reader_first "Reader.first" = true) (k_Reader_first : PySem.W.keepIn K (.ref f_Reader_first) = true)
    {od_window an_window : Option Addr} {sl_window : Array (Option Value)} {oc_window kV_window dc_window pm_window cd_window ct_window : Value} (a_window : PySem.W.nsIn K mainGlobals "window" = some (some (.ref f_window))) (l_window : K.lookup f_window = some ⟨oc_window, od_window, .func (PySem.W.fnOf "window" "window" (defArgs (top 16)) (defBody (top 16)) (defScope (top 16)) .none kV_window dc_window pm_window an_window cd_window ct_window), sl_window⟩) (c_window : PySem.W.codeIn K cd_window "window" = true) (k_window : PySem.W.keepIn K (.ref f_window) = true)
    {od_stepped an_stepped : Option Addr} {sl_stepped : Array (Option Value)} {oc_stepped kV_stepped dc_stepped pm_stepped cd_stepped ct_stepped : Value} (a_stepped : PySem.W.nsIn K mainGlobals "stepped" = some (some (.ref f_stepped))) (l_stepped : K.lookup f_stepped = some ⟨oc_stepped, od_stepped, .func (PySem.W.fnOf "stepped" "stepped" (defArgs (top 17)) (defBody (top 17)) (defScope (top 17)) .none kV_stepped dc_stepped pm_stepped an_stepped cd_stepped ct_stepped), sl_stepped⟩) (c_stepped : PySem.W.codeIn K cd_stepped "stepped" = true) (k_stepped : PySem.W.keepIn K (.ref f_stepped) = true)
    {od_check_size an_check_size : Option Addr} {sl_check_size : Array (Option Value)} {oc_check_size kV_check_size dc_check_size pm_check_size cd_check_size ct_check_size : Value} (a_check_size : PySem.W.nsIn K mainGlobals "check_size" = some (some (.ref f_check_size))) (l_check_size : K.lookup f_check_size = some ⟨oc_check_size, od_check_size, .func (PySem.W.fnOf "check_size" "check_size" (defArgs (top 19)) (defBody (top 19)) (defScope (top 19)) .none kV_check_size dc_check_size pm_check_size an_check_size cd_check_size ct_check_size), sl_check_size⟩) (c_check_size : PySem.W.codeIn K cd_check_size "check_size" = true) (k_check_size : PySem.W.keepIn K (.ref f_check_size) = true)
    {od_count_found an_count_found : Option Addr} {sl_count_found : Array (Option Value)} {oc_count_found kV_count_found dc_count_found pm_count_found cd_count_found ct_count_found : Value} (a_count_found : PySem.W.nsIn K mainGlobals "count_found" = some (some (.ref f_count_found))) (l_count_found : K.lookup f_count_found = some ⟨oc_count_found, od_count_found, .func (PySem.W.fnOf "count_found" "count_found" (defArgs (top 20)) (defBody (top 20)) (defScope (top 20)) .none kV_count_found dc_count_found pm_count_found an_count_found cd_count_found ct_count_found), sl_count_found⟩) (c_count_found : PySem.W.codeIn K cd_count_found "count_found" = true) (k_count_found : PySem.W.keepIn K (.ref f_count_found) = true)
    {od_found_sets an_found_sets : Option Addr} {sl_found_sets : Array (Option Value)} {oc_found_sets kV_found_sets dc_found_sets pm_found_sets cd_found_sets ct_found_sets : Value} (a_found_sets : PySem.W.nsIn K mainGlobals "found_sets" = some (some (.ref f_found_sets))) (l_found_sets : K.lookup f_found_sets = some ⟨oc_found_sets, od_found_sets, .func (PySem.W.fnOf "found_sets" "found_sets" (defArgs (top 21)) (defBody (top 21)) (defScope (top 21)) .none kV_found_sets dc_found_sets pm_found_sets an_found_sets cd_found_sets ct_found_sets), sl_found_sets⟩) (c_found_sets : PySem.W.codeIn K cd_found_sets "found_sets" = true) (k_found_sets : PySem.W.keepIn K (.ref f_found_sets) = true)
    {od_sets_found an_sets_found : Option Addr} {sl_sets_found : Array (Option Value)} {oc_sets_found kV_sets_found dc_sets_found pm_sets_found cd_sets_found ct_sets_found : Value} (a_sets_found : PySem.W.nsIn K mainGlobals "sets_found" = some (some (.ref f_sets_found))) (l_sets_found : K.lookup f_sets_found = some ⟨oc_sets_found, od_sets_found, .func (PySem.W.fnOf "sets_found" "sets_found" (defArgs (top 22)) (defBody (top 22)) (defScope (top 22)) .none kV_sets_found dc_sets_found pm_sets_found an_sets_found cd_sets_found ct_sets_found), sl_sets_found⟩) (c_sets_found : PySem.W.codeIn K cd_sets_found "sets_found" = true) (k_sets_found : PySem.W.keepIn K (.ref f_sets_found) = true)
    {od_needed_words an_needed_words : Option Addr} {sl_needed_words : Array (Option Value)} {oc_needed_words kV_needed_words dc_needed_words pm_needed_words cd_needed_words ct_needed_words : Value} (a_needed_words : PySem.W.nsIn K mainGlobals "needed_words" = some (some (.ref f_needed_words))) (l_needed_words : K.lookup f_needed_words = some ⟨oc_needed_words, od_needed_words, .func (PySem.W.fnOf "needed_words" "needed_words" (defArgs (top 23)) (defBody (top 23)) (defScope (top 23)) .none kV_needed_words dc_needed_words pm_needed_words an_needed_words cd_needed_words ct_needed_words), sl_needed_words⟩) (c_needed_words : PySem.W.codeIn K cd_needed_words "needed_words" = true) (k_needed_words : PySem.W.keepIn K (.ref f_needed_words) = true)
    {od_useless_words an_useless_words : Option Addr} {sl_useless_words : Array (Option Value)} {oc_useless_words kV_useless_words dc_useless_words pm_useless_words cd_useless_words ct_useless_words : Value} (a_useless_words : PySem.W.nsIn K mainGlobals "useless_words" = some (some (.ref f_useless_words))) (l_useless_words : K.lookup f_useless_words = some ⟨oc_useless_words, od_useless_words, .func (PySem.W.fnOf "useless_words" "useless_words" (defArgs (top 24)) (defBody (top 24)) (defScope (top 24)) .none kV_useless_words dc_useless_words pm_useless_words an_useless_words cd_useless_words ct_useless_words), sl_useless_words⟩) (c_useless_words : PySem.W.codeIn K cd_useless_words "useless_words" = true) (k_useless_words : PySem.W.keepIn K (.ref f_useless_words) = true)
    {od_first_with an_first_with : Option Addr} {sl_first_with : Array (Option Value)} {oc_first_with kV_first_with dc_first_with pm_first_with cd_first_with ct_first_with : Value} (a_first_with : PySem.W.nsIn K mainGlobals "first_with" = some (some (.ref f_first_with))) (l_first_with : K.lookup f_first_with = some ⟨oc_first_with, od_first_with, .func (PySem.W.fnOf "first_with" "first_with" (defArgs (top 26)) (defBody (top 26)) (defScope (top 26)) .none kV_first_with dc_first_with pm_first_with an_first_with cd_first_with ct_first_with), sl_first_with⟩) (c_first_with : PySem.W.codeIn K cd_first_with "first_with" = true) (k_first_with : PySem.W.keepIn K (.ref f_first_with) = true)
    {od_is_within an_is_within : Option Addr} {sl_is_within : Array (Option Value)} {oc_is_within kV_is_within dc_is_within pm_is_within cd_is_within ct_is_within : Value} (a_is_within : PySem.W.nsIn K mainGlobals "is_within" = some (some (.ref f_is_within))) (l_is_within : K.lookup f_is_within = some ⟨oc_is_within, od_is_within, .func (PySem.W.fnOf "is_within" "is_within" (defArgs (top 27)) (defBody (top 27)) (defScope (top 27)) .none kV_is_within dc_is_within pm_is_within an_is_within cd_is_within ct_is_within), sl_is_within⟩) (c_is_within : PySem.W.codeIn K cd_is_within "is_within" = true) (k_is_within : PySem.W.keepIn K (.ref f_is_within) = true)
    {od_first_found an_first_found : Option Addr} {sl_first_found : Array (Option Value)} {oc_first_found kV_first_found dc_first_found pm_first_found cd_first_found ct_first_found : Value} (a_first_found : PySem.W.nsIn K mainGlobals "first_found" = some (some (.ref f_first_found))) (l_first_found : K.lookup f_first_found = some ⟨oc_first_found, od_first_found, .func (PySem.W.fnOf "first_found" "first_found" (defArgs (top 28)) (defBody (top 28)) (defScope (top 28)) .none kV_first_found dc_first_found pm_first_found an_first_found cd_first_found ct_first_found), sl_first_found⟩) (c_first_found : PySem.W.codeIn K cd_first_found "first_found" = true) (k_first_found : PySem.W.keepIn K (.ref f_first_found) = true)
    {od__law_town an__law_town : Option Addr} {sl__law_town : Array (Option Value)} {oc__law_town kV__law_town dc__law_town pm__law_town cd__law_town ct__law_town : Value} (a__law_town : PySem.W.nsIn K mainGlobals "_law_town" = some (some (.ref f__law_town))) (l__law_town : K.lookup f__law_town = some ⟨oc__law_town, od__law_town, .func (PySem.W.fnOf "_law_town" "_law_town" (defArgs (top 30)) (defBody (top 30)) (defScope (top 30)) .none kV__law_town dc__law_town pm__law_town an__law_town cd__law_town ct__law_town), sl__law_town⟩) (c__law_town : PySem.W.codeIn K cd__law_town "_law_town" = true) (k__law_town : PySem.W.keepIn K (.ref f__law_town) = true)
    {od__law_draw an__law_draw : Option Addr} {sl__law_draw : Array (Option Value)} {oc__law_draw kV__law_draw dc__law_draw pm__law_draw cd__law_draw ct__law_draw : Value} (a__law_draw : PySem.W.nsIn K mainGlobals "_law_draw" = some (some (.ref f__law_draw))) (l__law_draw : K.lookup f__law_draw = some ⟨oc__law_draw, od__law_draw, .func (PySem.W.fnOf "_law_draw" "_law_draw" (defArgs (top 31)) (defBody (top 31)) (defScope (top 31)) .none kV__law_draw dc__law_draw pm__law_draw an__law_draw cd__law_draw ct__law_draw), sl__law_draw⟩) (c__law_draw : PySem.W.codeIn K cd__law_draw "_law_draw" = true) (k__law_draw : PySem.W.keepIn K (.ref f__law_draw) = true)
    {od__law_pick an__law_pick : Option Addr} {sl__law_pick : Array (Option Value)} {oc__law_pick kV__law_pick dc__law_pick pm__law_pick cd__law_pick ct__law_pick : Value} (a__law_pick : PySem.W.nsIn K mainGlobals "_law_pick" = some (some (.ref f__law_pick))) (l__law_pick : K.lookup f__law_pick = some ⟨oc__law_pick, od__law_pick, .func (PySem.W.fnOf "_law_pick" "_law_pick" (defArgs (top 32)) (defBody (top 32)) (defScope (top 32)) .none kV__law_pick dc__law_pick pm__law_pick an__law_pick cd__law_pick ct__law_pick), sl__law_pick⟩) (c__law_pick : PySem.W.codeIn K cd__law_pick "_law_pick" = true) (k__law_pick : PySem.W.keepIn K (.ref f__law_pick) = true)
    {od__law_word an__law_word : Option Addr} {sl__law_word : Array (Option Value)} {oc__law_word kV__law_word dc__law_word pm__law_word cd__law_word ct__law_word : Value} (a__law_word : PySem.W.nsIn K mainGlobals "_law_word" = some (some (.ref f__law_word))) (l__law_word : K.lookup f__law_word = some ⟨oc__law_word, od__law_word, .func (PySem.W.fnOf "_law_word" "_law_word" (defArgs (top 33)) (defBody (top 33)) (defScope (top 33)) .none kV__law_word dc__law_word pm__law_word an__law_word cd__law_word ct__law_word), sl__law_word⟩) (c__law_word : PySem.W.codeIn K cd__law_word "_law_word" = true) (k__law_word : PySem.W.keepIn K (.ref f__law_word) = true)
    {od__law_simple an__law_simple : Option Addr} {sl__law_simple : Array (Option Value)} {oc__law_simple kV__law_simple dc__law_simple pm__law_simple cd__law_simple ct__law_simple : Value} (a__law_simple : PySem.W.nsIn K mainGlobals "_law_simple" = some (some (.ref f__law_simple))) (l__law_simple : K.lookup f__law_simple = some ⟨oc__law_simple, od__law_simple, .func (PySem.W.fnOf "_law_simple" "_law_simple" (defArgs (top 34)) (defBody (top 34)) (defScope (top 34)) .none kV__law_simple dc__law_simple pm__law_simple an__law_simple cd__law_simple ct__law_simple), sl__law_simple⟩) (c__law_simple : PySem.W.codeIn K cd__law_simple "_law_simple" = true) (k__law_simple : PySem.W.keepIn K (.ref f__law_simple) = true)
    {od__law_question an__law_question : Option Addr} {sl__law_question : Array (Option Value)} {oc__law_question kV__law_question dc__law_question pm__law_question cd__law_question ct__law_question : Value} (a__law_question : PySem.W.nsIn K mainGlobals "_law_question" = some (some (.ref f__law_question))) (l__law_question : K.lookup f__law_question = some ⟨oc__law_question, od__law_question, .func (PySem.W.fnOf "_law_question" "_law_question" (defArgs (top 35)) (defBody (top 35)) (defScope (top 35)) .none kV__law_question dc__law_question pm__law_question an__law_question cd__law_question ct__law_question), sl__law_question⟩) (c__law_question : PySem.W.codeIn K cd__law_question "_law_question" = true) (k__law_question : PySem.W.keepIn K (.ref f__law_question) = true)
    {od__law_finds an__law_finds : Option Addr} {sl__law_finds : Array (Option Value)} {oc__law_finds kV__law_finds dc__law_finds pm__law_finds cd__law_finds ct__law_finds : Value} (a__law_finds : PySem.W.nsIn K mainGlobals "_law_finds" = some (some (.ref f__law_finds))) (l__law_finds : K.lookup f__law_finds = some ⟨oc__law_finds, od__law_finds, .func (PySem.W.fnOf "_law_finds" "_law_finds" (defArgs (top 36)) (defBody (top 36)) (defScope (top 36)) .none kV__law_finds dc__law_finds pm__law_finds an__law_finds cd__law_finds ct__law_finds), sl__law_finds⟩) (c__law_finds : PySem.W.codeIn K cd__law_finds "_law_finds" = true) (k__law_finds : PySem.W.keepIn K (.ref f__law_finds) = true)
    {od__law_texts an__law_texts : Option Addr} {sl__law_texts : Array (Option Value)} {oc__law_texts kV__law_texts dc__law_texts pm__law_texts cd__law_texts ct__law_texts : Value} (a__law_texts : PySem.W.nsIn K mainGlobals "_law_texts" = some (some (.ref f__law_texts))) (l__law_texts : K.lookup f__law_texts = some ⟨oc__law_texts, od__law_texts, .func (PySem.W.fnOf "_law_texts" "_law_texts" (defArgs (top 37)) (defBody (top 37)) (defScope (top 37)) .none kV__law_texts dc__law_texts pm__law_texts an__law_texts cd__law_texts ct__law_texts), sl__law_texts⟩) (c__law_texts : PySem.W.codeIn K cd__law_texts "_law_texts" = true) (k__law_texts : PySem.W.keepIn K (.ref f__law_texts) = true)
    {od_law an_law : Option Addr} {sl_law : Array (Option Value)} {oc_law kV_law dc_law pm_law cd_law ct_law : Value} (a_law : PySem.W.nsIn K mainGlobals "law" = some (some (.ref f_law))) (l_law : K.lookup f_law = some ⟨oc_law, od_law, .func (PySem.W.fnOf "law" "law" (defArgs (top 38)) (defBody (top 38)) (defScope (top 38)) .none kV_law dc_law pm_law an_law cd_law ct_law), sl_law⟩) (c_law : PySem.W.codeIn K cd_law "law" = true) (k_law : PySem.W.keepIn K (.ref f_law) = true)
    {ee_first_with : Value} {dd_first_with : Option Addr} {vv_first_with : Array Value} {sm_first_with : Array (Option Value)} (ec_first_with : cd_first_with = .ref c1_first_with) (mm_first_with : K.lookup c1_first_with = some ⟨ee_first_with, dd_first_with, .fields vv_first_with, sm_first_with⟩) (vt_first_with : vv_first_with[11]? = some (.ref P1_first_with)) (zt_first_with : K.lookup P1_first_with = none) (rr_first_with : ((recsOf q).any fun e => e.name == ("first_with" : PySem.Str)) = true)
    {ee_is_within : Value} {dd_is_within : Option Addr} {vv_is_within : Array Value} {sm_is_within : Array (Option Value)} (ec_is_within : cd_is_within = .ref c1_is_within) (mm_is_within : K.lookup c1_is_within = some ⟨ee_is_within, dd_is_within, .fields vv_is_within, sm_is_within⟩) (vt_is_within : vv_is_within[11]? = some (.ref P1_is_within)) (zt_is_within : K.lookup P1_is_within = none) (rr_is_within : ((recsOf q).any fun e => e.name == ("is_within" : PySem.Str)) = true)
    {ee_first_found : Value} {dd_first_found : Option Addr} {vv_first_found : Array Value} {sm_first_found : Array (Option Value)} (ec_first_found : cd_first_found = .ref c1_first_found) (mm_first_found : K.lookup c1_first_found = some ⟨ee_first_found, dd_first_found, .fields vv_first_found, sm_first_found⟩) (vt_first_found : vv_first_found[11]? = some (.ref P1_first_found)) (zt_first_found : K.lookup P1_first_found = none) (rr_first_found : ((recsOf q).any fun e => e.name == ("first_found" : PySem.Str)) = true)
    (ndt : [P1_first_with, P1_is_within, P1_first_found].Nodup) :
    ∃ (fd : FuncData) (cs : List (Addr × Addr)) (tab : List (Addr × PySem.Str)), (∀ p ∈ cs, h.get? p.2 = some { cls := .none, data := .fields #[] }) ∧ (∀ p ∈ cs, K.lookup p.2 = none) ∧ (∀ p ∈ cs, PySem.W.CodeHd h p.1 p.2) ∧ (∀ p ∈ tab, ∃ c, (c, p.1) ∈ cs) ∧
      (∀ (s : Shared) (v : Value), BindsTo s fd ⟨[v], []⟩ [("_law_script", v)]) ∧ ∀ base : Heap, K.In base → base.Ns mainGlobals mg → (∀ p ∈ cs, LamX.TabB base mg p.1 p.2) → FnOk l.prog w K mg base (L2.CX l.prog w) 12 fa fd ["_law_script"] (spLaw K tab) := by
  have e := hfa.symm.trans (PySem.W.mg_of X G a_law)
  cases e
  have t_first_with := tabs _ c1_first_with P1_first_with rr_first_with (tabK_mk (st := top 26) a_first_with l_first_with ec_first_with mm_first_with vt_first_with zt_first_with)
  have t_is_within := tabs _ c1_is_within P1_is_within rr_is_within (tabK_mk (st := top 27) a_is_within l_is_within ec_is_within mm_is_within vt_is_within zt_is_within)
  have t_first_found := tabs _ c1_first_found P1_first_found rr_first_found (tabK_mk (st := top 28) a_first_found l_first_found ec_first_found mm_first_found vt_first_found zt_first_found)
  refine ⟨PySem.W.fnOf "law" "law" (defArgs (top 38)) (defBody (top 38)) (defScope (top 38)) .none kV_law dc_law pm_law an_law cd_law ct_law, [(c1_first_with, P1_first_with), (c1_is_within, P1_is_within), (c1_first_found, P1_first_found)], [(P1_first_with, ("first_with.<locals>.<lambda>" : PySem.Str)), (P1_is_within, ("is_within.<locals>.<lambda>" : PySem.Str)), (P1_first_found, ("first_found.<locals>.<lambda>" : PySem.Str))], (List.forall_mem_cons.mpr ⟨t_first_with.2, (List.forall_mem_cons.mpr ⟨t_is_within.2, (List.forall_mem_cons.mpr ⟨t_first_found.2, (fun _ hz => nomatch hz)⟩)⟩)⟩), (List.forall_mem_cons.mpr ⟨zt_first_with, (List.forall_mem_cons.mpr ⟨zt_is_within, (List.forall_mem_cons.mpr ⟨zt_first_found, (fun _ hz => nomatch hz)⟩)⟩)⟩), (List.forall_mem_cons.mpr ⟨t_first_with.1, (List.forall_mem_cons.mpr ⟨t_is_within.1, (List.forall_mem_cons.mpr ⟨t_first_found.1, (fun _ hz => nomatch hz)⟩)⟩)⟩), (List.forall_mem_cons.mpr ⟨⟨c1_first_with, by simp⟩, (List.forall_mem_cons.mpr ⟨⟨c1_is_within, by simp⟩, (List.forall_mem_cons.mpr ⟨⟨c1_first_found, by simp⟩, (fun _ hz => nomatch hz)⟩)⟩)⟩), fun s v => .of_eq rfl, fun base _ _ TB => ?_⟩
  have T : Txt w K mg base ⟨fun i => match i with | 0 => C_InvalidQuestion | 1 => C_InvalidNumber | _ => 0, lams, [(P1_first_with, ("first_with.<locals>.<lambda>" : PySem.Str)), (P1_is_within, ("is_within.<locals>.<lambda>" : PySem.Str)), (P1_first_found, ("first_found.<locals>.<lambda>" : PySem.Str))]⟩ := ⟨fun _ => rfl,
    PySem.W.mg_none_of X G z_all,
    PySem.W.mg_none_of X G z_any,
    PySem.W.mg_none_of X G z_bool,
    PySem.W.mg_none_of X G z_int,
    PySem.W.mg_none_of X G z_isinstance,
    PySem.W.mg_none_of X G z_len,
    PySem.W.mg_none_of X G z_list,
    PySem.W.mg_none_of X G z_min,
    PySem.W.mg_none_of X G z_range,
    PySem.W.mg_none_of X G z_set,
    PySem.W.mg_none_of X G z_sorted,
    PySem.W.mg_none_of X G z_str,
    PySem.W.mg_none_of X G z_sum,
    PySem.W.mg_none_of X G z_tuple,
    PySem.W.mg_none_of X G z_zip,
    ⟨_, PySem.W.mg_of X G gc_FOUND⟩,
    ⟨_, PySem.W.mg_of X G gc_WORDS⟩,
    ⟨_, PySem.W.mg_of X G gc_DEEP⟩,
    ⟨xe_InvalidQuestion, PySem.W.mg_of X G xg_InvalidQuestion, xk_InvalidQuestion, xs_InvalidQuestion, xt_InvalidQuestion⟩,
    ⟨xe_InvalidNumber, PySem.W.mg_of X G xg_InvalidNumber, xk_InvalidNumber, xs_InvalidNumber, xt_InvalidNumber⟩,
    ⟨C_Reader, WF.nm_to (by decide +kernel) xg_Reader, ⟨cp_Reader, ch_Reader, co_Reader, ca_Reader⟩, WF.fi_to (by decide +kernel) nf_Reader_told⟩,
    ⟨C_Reader, WF.nm_to (by decide +kernel) xg_Reader, ⟨cp_Reader, ch_Reader, co_Reader, ca_Reader⟩, WF.fi_to (by decide +kernel) nf_Reader_questions⟩,
    ⟨C_Reader, WF.nm_to (by decide +kernel) xg_Reader, ⟨cp_Reader, ch_Reader, co_Reader, ca_Reader⟩, WF.fi_to (by decide +kernel) nf_Reader_simple⟩,
    ⟨C_Reader, WF.nm_to (by decide +kernel) xg_Reader, ⟨cp_Reader, ch_Reader, co_Reader, ca_Reader⟩, WF.fi_to (by decide +kernel) nf_Reader_known⟩,
    ⟨_, _, fun_mk (st := top 7) l_is_between c_is_between k_is_between, PySem.W.mg_of X G a_is_between, (fun_mk (st := top 7) l_is_between c_is_between k_is_between).binds (ps := ["value", "low", "high"]) fun _ _ _ _ _ _ us hl => match us, hl with | [_, _, _], _ => rfl⟩,
    ⟨_, _, fun_mk (st := top 8) l_are_words c_are_words k_are_words, PySem.W.mg_of X G a_are_words, (fun_mk (st := top 8) l_are_words c_are_words k_are_words).binds (ps := ["value", "low", "high"]) fun _ _ _ _ _ _ us hl => match us, hl with | [_, _, _], _ => rfl⟩,
    ⟨_, _, fun_mk (st := top 9) l_is_simple c_is_simple k_is_simple, PySem.W.mg_of X G a_is_simple, (fun_mk (st := top 9) l_is_simple c_is_simple k_is_simple).binds (ps := ["value"]) fun _ _ _ _ _ _ us hl => match us, hl with | [_], _ => rfl⟩,
    ⟨_, _, fun_mk (st := top 10) l_is_at_most c_is_at_most k_is_at_most, PySem.W.mg_of X G a_is_at_most, (fun_mk (st := top 10) l_is_at_most c_is_at_most k_is_at_most).binds (ps := ["value", "deep"]) fun _ _ _ _ _ _ us hl => match us, hl with | [_, _], _ => rfl⟩,
    ⟨_, _, fun_mk (st := top 11) l_is_question c_is_question k_is_question, PySem.W.mg_of X G a_is_question, (fun_mk (st := top 11) l_is_question c_is_question k_is_question).binds (ps := ["value"]) fun _ _ _ _ _ _ us hl => match us, hl with | [_], _ => rfl⟩,
    ⟨_, _, fun_mk (st := top 12) l_check_question c_check_question k_check_question, PySem.W.mg_of X G a_check_question, (fun_mk (st := top 12) l_check_question c_check_question k_check_question).binds (ps := ["value"]) fun _ _ _ _ _ _ us hl => match us, hl with | [_], _ => rfl⟩,
    ⟨_, _, _, fun_mk (st := s_Reader_init) l_Reader_init c_Reader_init k_Reader_init, (fun_mk (st := s_Reader_init) l_Reader_init c_Reader_init k_Reader_init).binds (ps := ["self", "questions"]) fun _ _ _ _ _ _ us hl => (match us, hl with | [_, _], _ => rfl), WF.nm_to (by decide +kernel) xg_Reader, WF.mgc_to (by decide +kernel) (PySem.W.mg_of X G xg_Reader), ⟨cm_Reader, a_Reader_init, i_Reader_init, ck_Reader⟩⟩,
    ⟨_, _, _, fun_mk (st := s_Reader_collect) l_Reader_collect c_Reader_collect k_Reader_collect, (fun_mk (st := s_Reader_collect) l_Reader_collect c_Reader_collect k_Reader_collect).binds (ps := ["self", "question"]) fun _ _ _ _ _ _ us hl => (match us, hl with | [_, _], _ => rfl), WF.nm_to (by decide +kernel) xg_Reader, ⟨cp_Reader, ch_Reader, co_Reader, ca_Reader⟩, ⟨WF.fm_to (by decide +kernel) a_Reader_collect, i_Reader_collect, k_Reader_collect⟩⟩,
    ⟨_, _, _, fun_mk (st := s_Reader_start) l_Reader_start c_Reader_start k_Reader_start, (fun_mk (st := s_Reader_start) l_Reader_start c_Reader_start k_Reader_start).binds (ps := ["self"]) fun _ _ _ _ _ _ us hl => (match us, hl with | [_], _ => rfl), WF.nm_to (by decide +kernel) xg_Reader, ⟨cp_Reader, ch_Reader, co_Reader, ca_Reader⟩, ⟨WF.fm_to (by decide +kernel) a_Reader_start, i_Reader_start, k_Reader_start⟩⟩,
    ⟨_, _, _, fun_mk (st := s_Reader_step) l_Reader_step c_Reader_step k_Reader_step, (fun_mk (st := s_Reader_step) l_Reader_step c_Reader_step k_Reader_step).binds (ps := ["self", "state", "word"]) fun _ _ _ _ _ _ us hl => (match us, hl with | [_, _, _], _ => rfl), WF.nm_to (by decide +kernel) xg_Reader, ⟨cp_Reader, ch_Reader, co_Reader, ca_Reader⟩, ⟨WF.fm_to (by decide +kernel) a_Reader_step, i_Reader_step, k_Reader_step⟩⟩,
    ⟨_, _, _, fun_mk (st := s_Reader_truth) l_Reader_truth c_Reader_truth k_Reader_truth, (fun_mk (st := s_Reader_truth) l_Reader_truth c_Reader_truth k_Reader_truth).binds (ps := ["self", "question", "state"]) fun _ _ _ _ _ _ us hl => (match us, hl with | [_, _, _], _ => rfl), WF.nm_to (by decide +kernel) xg_Reader, ⟨cp_Reader, ch_Reader, co_Reader, ca_Reader⟩, ⟨WF.fm_to (by decide +kernel) a_Reader_truth, i_Reader_truth, k_Reader_truth⟩⟩,
    ⟨_, _, _, fun_mk (st := s_Reader_answers) l_Reader_answers c_Reader_answers k_Reader_answers, (fun_mk (st := s_Reader_answers) l_Reader_answers c_Reader_answers k_Reader_answers).binds (ps := ["self", "state"]) fun _ _ _ _ _ _ us hl => (match us, hl with | [_, _], _ => rfl), WF.nm_to (by decide +kernel) xg_Reader, ⟨cp_Reader, ch_Reader, co_Reader, ca_Reader⟩, ⟨WF.fm_to (by decide +kernel) a_Reader_answers, i_Reader_answers, k_Reader_answers⟩⟩,
    ⟨_, _, _, fun_mk (st := s_Reader_first) l_Reader_first c_Reader_first k_Reader_first, (fun_mk (st := s_Reader_first) l_Reader_first c_Reader_first k_Reader_first).binds (ps := ["self", "is_wanted"]) fun _ _ _ _ _ _ us hl => (match us, hl with | [_, _], _ => rfl), WF.nm_to (by decide +kernel) xg_Reader, ⟨cp_Reader, ch_Reader, co_Reader, ca_Reader⟩, ⟨WF.fm_to (by decide +kernel) a_Reader_first, i_Reader_first, k_Reader_first⟩⟩,
    ⟨_, _, fun_mk (st := top 16) l_window c_window k_window, PySem.W.mg_of X G a_window, (fun_mk (st := top 16) l_window c_window k_window).binds (ps := ["question", "part", "word"]) fun _ _ _ _ _ _ us hl => match us, hl with | [_, _, _], _ => rfl⟩,
    ⟨_, _, fun_mk (st := top 17) l_stepped c_stepped k_stepped, PySem.W.mg_of X G a_stepped, (fun_mk (st := top 17) l_stepped c_stepped k_stepped).binds (ps := ["question", "part", "word"]) fun _ _ _ _ _ _ us hl => match us, hl with | [_, _, _], _ => rfl⟩,
    ⟨_, _, fun_mk (st := top 19) l_check_size c_check_size k_check_size, PySem.W.mg_of X G a_check_size, (fun_mk (st := top 19) l_check_size c_check_size k_check_size).binds (ps := ["size", "most"]) fun _ _ _ _ _ _ us hl => match us, hl with | [_, _], _ => rfl⟩,
    ⟨_, _, fun_mk (st := top 20) l_count_found c_count_found k_count_found, PySem.W.mg_of X G a_count_found, (fun_mk (st := top 20) l_count_found c_count_found k_count_found).binds (ps := ["question", "size"]) fun _ _ _ _ _ _ us hl => match us, hl with | [_, _], _ => rfl⟩,
    ⟨_, _, fun_mk (st := top 21) l_found_sets c_found_sets k_found_sets, PySem.W.mg_of X G a_found_sets, (fun_mk (st := top 21) l_found_sets c_found_sets k_found_sets).binds (ps := ["question"]) fun _ _ _ _ _ _ us hl => match us, hl with | [_], _ => rfl⟩,
    ⟨_, _, fun_mk (st := top 22) l_sets_found c_sets_found k_sets_found, PySem.W.mg_of X G a_sets_found, (fun_mk (st := top 22) l_sets_found c_sets_found k_sets_found).binds (ps := ["question"]) fun _ _ _ _ _ _ us hl => match us, hl with | [_], _ => rfl⟩,
    ⟨_, _, fun_mk (st := top 23) l_needed_words c_needed_words k_needed_words, PySem.W.mg_of X G a_needed_words, (fun_mk (st := top 23) l_needed_words c_needed_words k_needed_words).binds (ps := ["question"]) fun _ _ _ _ _ _ us hl => match us, hl with | [_], _ => rfl⟩,
    ⟨_, _, fun_mk (st := top 24) l_useless_words c_useless_words k_useless_words, PySem.W.mg_of X G a_useless_words, (fun_mk (st := top 24) l_useless_words c_useless_words k_useless_words).binds (ps := ["question"]) fun _ _ _ _ _ _ us hl => match us, hl with | [_], _ => rfl⟩,
    ⟨_, _, _, func_mk (st := top 26) l_first_with c_first_with k_first_with ec_first_with, PySem.W.mg_of X G a_first_with, (fun_mk (st := top 26) l_first_with c_first_with k_first_with).binds (ps := ["questions", "is_wanted"]) fun _ _ _ _ _ _ us hl => (match us, hl with | [_, _], _ => rfl), ⟨P1_first_with, TB (c1_first_with, P1_first_with) (by simp), by simp, tab_uni (tab := [(P1_first_with, ("first_with.<locals>.<lambda>" : PySem.Str)), (P1_is_within, ("is_within.<locals>.<lambda>" : PySem.Str)), (P1_first_found, ("first_found.<locals>.<lambda>" : PySem.Str))]) ndt (by simp)⟩⟩,
    ⟨_, _, _, func_mk (st := top 27) l_is_within c_is_within k_is_within ec_is_within, PySem.W.mg_of X G a_is_within, (fun_mk (st := top 27) l_is_within c_is_within k_is_within).binds (ps := ["one", "other"]) fun _ _ _ _ _ _ us hl => (match us, hl with | [_, _], _ => rfl), ⟨P1_is_within, TB (c1_is_within, P1_is_within) (by simp), by simp, tab_uni (tab := [(P1_first_with, ("first_with.<locals>.<lambda>" : PySem.Str)), (P1_is_within, ("is_within.<locals>.<lambda>" : PySem.Str)), (P1_first_found, ("first_found.<locals>.<lambda>" : PySem.Str))]) ndt (by simp)⟩⟩,
    ⟨_, _, _, func_mk (st := top 28) l_first_found c_first_found k_first_found ec_first_found, PySem.W.mg_of X G a_first_found, (fun_mk (st := top 28) l_first_found c_first_found k_first_found).binds (ps := ["question"]) fun _ _ _ _ _ _ us hl => (match us, hl with | [_], _ => rfl), ⟨P1_first_found, TB (c1_first_found, P1_first_found) (by simp), by simp, tab_uni (tab := [(P1_first_with, ("first_with.<locals>.<lambda>" : PySem.Str)), (P1_is_within, ("is_within.<locals>.<lambda>" : PySem.Str)), (P1_first_found, ("first_found.<locals>.<lambda>" : PySem.Str))]) ndt (by simp)⟩⟩,
    ⟨_, _, fun_mk (st := top 30) l__law_town c__law_town k__law_town, PySem.W.mg_of X G a__law_town, (fun_mk (st := top 30) l__law_town c__law_town k__law_town).binds (ps := ["_law_script"]) fun _ _ _ _ _ _ us hl => match us, hl with | [_], _ => rfl⟩,
    ⟨_, _, fun_mk (st := top 31) l__law_draw c__law_draw k__law_draw, PySem.W.mg_of X G a__law_draw, (fun_mk (st := top 31) l__law_draw c__law_draw k__law_draw).binds (ps := ["_law_script", "_law_town_here", "_law_limit"]) fun _ _ _ _ _ _ us hl => match us, hl with | [_, _, _], _ => rfl⟩,
    ⟨_, _, fun_mk (st := top 32) l__law_pick c__law_pick k__law_pick, PySem.W.mg_of X G a__law_pick, (fun_mk (st := top 32) l__law_pick c__law_pick k__law_pick).binds (ps := ["_law_script", "_law_town_here", "_law_choices"]) fun _ _ _ _ _ _ us hl => match us, hl with | [_, _, _], _ => rfl⟩,
    ⟨_, _, fun_mk (st := top 33) l__law_word c__law_word k__law_word, PySem.W.mg_of X G a__law_word, (fun_mk (st := top 33) l__law_word c__law_word k__law_word).binds (ps := ["_law_script", "_law_town_here"]) fun _ _ _ _ _ _ us hl => match us, hl with | [_, _], _ => rfl⟩,
    ⟨_, _, fun_mk (st := top 34) l__law_simple c__law_simple k__law_simple, PySem.W.mg_of X G a__law_simple, (fun_mk (st := top 34) l__law_simple c__law_simple k__law_simple).binds (ps := ["_law_script", "_law_town_here"]) fun _ _ _ _ _ _ us hl => match us, hl with | [_, _], _ => rfl⟩,
    ⟨_, _, fun_mk (st := top 35) l__law_question c__law_question k__law_question, PySem.W.mg_of X G a__law_question, (fun_mk (st := top 35) l__law_question c__law_question k__law_question).binds (ps := ["_law_script", "_law_town_here", "_law_deep"]) fun _ _ _ _ _ _ us hl => match us, hl with | [_, _, _], _ => rfl⟩,
    ⟨_, _, fun_mk (st := top 36) l__law_finds c__law_finds k__law_finds, PySem.W.mg_of X G a__law_finds, (fun_mk (st := top 36) l__law_finds c__law_finds k__law_finds).binds (ps := ["_law_question_here", "_law_text"]) fun _ _ _ _ _ _ us hl => match us, hl with | [_, _], _ => rfl⟩,
    ⟨_, _, fun_mk (st := top 37) l__law_texts c__law_texts k__law_texts, PySem.W.mg_of X G a__law_texts, (fun_mk (st := top 37) l__law_texts c__law_texts k__law_texts).binds (ps := ["_law_most"]) fun _ _ _ _ _ _ us hl => match us, hl with | [_], _ => rfl⟩,
    ⟨_, _, fun_mk (st := top 38) l_law c_law k_law, PySem.W.mg_of X G a_law, (fun_mk (st := top 38) l_law c_law k_law).binds (ps := ["_law_script"]) fun _ _ _ _ _ _ us hl => match us, hl with | [_], _ => rfl⟩⟩
  exact (okf_law T (fun_mk (st := top 38) l_law c_law k_law)).imp (spLaw_of (cl := ⟨fun i => match i with | 0 => C_InvalidQuestion | 1 => C_InvalidNumber | _ => 0, lams, [(P1_first_with, ("first_with.<locals>.<lambda>" : PySem.Str)), (P1_is_within, ("is_within.<locals>.<lambda>" : PySem.Str)), (P1_first_found, ("first_found.<locals>.<lambda>" : PySem.Str))]⟩) law_true)
end WF
open PySem PySem.W PyProof.Rows
set_option maxRecDepth 100000 in
set_option maxHeartbeats 0 in
set_option pp.maxSteps 60 in
theorem PySem.Challenge.cw_wordfinds_k20_whole_counts_holds : PySem.Challenge.rw_wordfinds_k20_whole_counts.Holds := by
  w_on; o_law; k_head; (case hw => w_witness2)
  k_fill
  refine WF.walkT2 (k := 12) (x := "_law_script") (l := PySem.Challenge.rw_wordfinds_k20_whole_counts) rfl rfl ⟨rfl, by decide, by decide⟩ (fun w h Y => by first | exact PySem.W.km_in_of Y | exact PySem.W.kIn_of Y) ?F
  case F =>
    intro w mg fa h KX G hmg hTabs
    refine' WF.all_mk KX G hmg hTabs ?z_all ?z_any ?z_bool ?z_int ?z_isinstance ?z_len ?z_list ?z_min ?z_range ?z_set ?z_sorted ?z_str ?z_sum ?z_tuple ?z_zip ?gc_FOUND ?gc_WORDS ?gc_DEEP ?xg_InvalidQuestion ?xe_InvalidQuestion ?xk_InvalidQuestion ?xs_InvalidQuestion ?xt_InvalidQuestion ?xg_InvalidNumber ?xe_InvalidNumber ?xk_InvalidNumber ?xs_InvalidNumber ?xt_InvalidNumber ?xg_Reader ?cp_Reader ?ch_Reader ?co_Reader ?ca_Reader ?cm_Reader ?ck_Reader ?nf_Reader_told ?nf_Reader_questions ?nf_Reader_simple ?nf_Reader_known ?a_is_between ?l_is_between ?c_is_between ?k_is_between ?a_are_words ?l_are_words ?c_are_words ?k_are_words ?a_is_simple ?l_is_simple ?c_is_simple ?k_is_simple ?a_is_at_most ?l_is_at_most ?c_is_at_most ?k_is_at_most ?a_is_question ?l_is_question ?c_is_question ?k_is_question ?a_check_question ?l_check_question ?c_check_question ?k_check_question ?a_Reader_init ?i_Reader_init ?l_Reader_init ?c_Reader_init ?k_Reader_init ?a_Reader_collect ?i_Reader_collect ?l_Reader_collect ?c_Reader_collect ?k_Reader_collect ?a_Reader_start ?i_Reader_start ?l_Reader_start ?c_Reader_start ?k_Reader_start ?a_Reader_step ?i_Reader_step ?l_Reader_step ?c_Reader_step ?k_Reader_step ?a_Reader_truth ?i_Reader_truth ?l_Reader_truth ?c_Reader_truth ?k_Reader_truth ?a_Reader_answers ?i_Reader_answers ?l_Reader_answers ?c_Reader_answers ?k_Reader_answers ?a_Reader_first ?i_Reader_first ?l_Reader_first ?c_Reader_first ?k_Reader_first ?a_window ?l_window ?c_window ?k_window ?a_stepped ?l_stepped ?c_stepped ?k_stepped ?a_check_size ?l_check_size ?c_check_size ?k_check_size ?a_count_found ?l_count_found ?c_count_found ?k_count_found ?a_found_sets ?l_found_sets ?c_found_sets ?k_found_sets ?a_sets_found ?l_sets_found ?c_sets_found ?k_sets_found ?a_needed_words ?l_needed_words ?c_needed_words ?k_needed_words ?a_useless_words ?l_useless_words ?c_useless_words ?k_useless_words ?a_first_with ?l_first_with ?c_first_with ?k_first_with ?a_is_within ?l_is_within ?c_is_within ?k_is_within ?a_first_found ?l_first_found ?c_first_found ?k_first_found ?a__law_town ?l__law_town ?c__law_town ?k__law_town ?a__law_draw ?l__law_draw ?c__law_draw ?k__law_draw ?a__law_pick ?l__law_pick ?c__law_pick ?k__law_pick ?a__law_word ?l__law_word ?c__law_word ?k__law_word ?a__law_simple ?l__law_simple ?c__law_simple ?k__law_simple ?a__law_question ?l__law_question ?c__law_question ?k__law_question ?a__law_finds ?l__law_finds ?c__law_finds ?k__law_finds ?a__law_texts ?l__law_texts ?c__law_texts ?k__law_texts ?a_law ?l_law ?c_law ?k_law ?ec_first_with ?mm_first_with ?vt_first_with ?zt_first_with ?rr_first_with ?ec_is_within ?mm_is_within ?vt_is_within ?zt_is_within ?rr_is_within ?ec_first_found ?mm_first_found ?vt_first_found ?zt_first_found ?rr_first_found ?ndt
    (case z_all => k_is)
    (case z_any => k_is)
    (case z_bool => k_is)
    (case z_int => k_is)
    (case z_isinstance => k_is)
    (case z_len => k_is)
    (case z_list => k_is)
    (case z_min => k_is)
    (case z_range => k_is)
    (case z_set => k_is)
    (case z_sorted => k_is)
    (case z_str => k_is)
    (case z_sum => k_is)
    (case z_tuple => k_is)
    (case z_zip => k_is)
    (case gc_FOUND => k_is)
    (case gc_WORDS => k_is)
    (case gc_DEEP => k_is)
    (case xg_InvalidQuestion => k_is)
    (case xe_InvalidQuestion => k_exc)
    (case xk_InvalidQuestion => k_is)
    (case xs_InvalidQuestion => k_is)
    (case xt_InvalidQuestion => k_is)
    (case xg_InvalidNumber => k_is)
    (case xe_InvalidNumber => k_exc)
    (case xk_InvalidNumber => k_is)
    (case xs_InvalidNumber => k_is)
    (case xt_InvalidNumber => k_is)
    (case xg_Reader => k_is)
    (case cp_Reader => k_is)
    (case ch_Reader => k_is)
    (case co_Reader => k_is)
    (case ca_Reader => k_is)
    (case cm_Reader => k_is)
    (case ck_Reader => k_is)
    (case nf_Reader_told => k_is)
    (case nf_Reader_questions => k_is)
    (case nf_Reader_simple => k_is)
    (case nf_Reader_known => k_is)
    (case a_is_between => k_is)
    (case l_is_between => k_is)
    (case c_is_between => k_is)
    (case k_is_between => k_is)
    (case a_are_words => k_is)
    (case l_are_words => k_is)
    (case c_are_words => k_is)
    (case k_are_words => k_is)
    (case a_is_simple => k_is)
    (case l_is_simple => k_is)
    (case c_is_simple => k_is)
    (case k_is_simple => k_is)
    (case a_is_at_most => k_is)
    (case l_is_at_most => k_is)
    (case c_is_at_most => k_is)
    (case k_is_at_most => k_is)
    (case a_is_question => k_is)
    (case l_is_question => k_is)
    (case c_is_question => k_is)
    (case k_is_question => k_is)
    (case a_check_question => k_is)
    (case l_check_question => k_is)
    (case c_check_question => k_is)
    (case k_check_question => k_is)
    (case a_Reader_init => k_is)
    (case i_Reader_init => k_is)
    (case l_Reader_init => k_is)
    (case c_Reader_init => k_is)
    (case k_Reader_init => k_is)
    (case a_Reader_collect => k_is)
    (case i_Reader_collect => k_is)
    (case l_Reader_collect => k_is)
    (case c_Reader_collect => k_is)
    (case k_Reader_collect => k_is)
    (case a_Reader_start => k_is)
    (case i_Reader_start => k_is)
    (case l_Reader_start => k_is)
    (case c_Reader_start => k_is)
    (case k_Reader_start => k_is)
    (case a_Reader_step => k_is)
    (case i_Reader_step => k_is)
    (case l_Reader_step => k_is)
    (case c_Reader_step => k_is)
    (case k_Reader_step => k_is)
    (case a_Reader_truth => k_is)
    (case i_Reader_truth => k_is)
    (case l_Reader_truth => k_is)
    (case c_Reader_truth => k_is)
    (case k_Reader_truth => k_is)
    (case a_Reader_answers => k_is)
    (case i_Reader_answers => k_is)
    (case l_Reader_answers => k_is)
    (case c_Reader_answers => k_is)
    (case k_Reader_answers => k_is)
    (case a_Reader_first => k_is)
    (case i_Reader_first => k_is)
    (case l_Reader_first => k_is)
    (case c_Reader_first => k_is)
    (case k_Reader_first => k_is)
    (case a_window => k_is)
    (case l_window => k_is)
    (case c_window => k_is)
    (case k_window => k_is)
    (case a_stepped => k_is)
    (case l_stepped => k_is)
    (case c_stepped => k_is)
    (case k_stepped => k_is)
    (case a_check_size => k_is)
    (case l_check_size => k_is)
    (case c_check_size => k_is)
    (case k_check_size => k_is)
    (case a_count_found => k_is)
    (case l_count_found => k_is)
    (case c_count_found => k_is)
    (case k_count_found => k_is)
    (case a_found_sets => k_is)
    (case l_found_sets => k_is)
    (case c_found_sets => k_is)
    (case k_found_sets => k_is)
    (case a_sets_found => k_is)
    (case l_sets_found => k_is)
    (case c_sets_found => k_is)
    (case k_sets_found => k_is)
    (case a_needed_words => k_is)
    (case l_needed_words => k_is)
    (case c_needed_words => k_is)
    (case k_needed_words => k_is)
    (case a_useless_words => k_is)
    (case l_useless_words => k_is)
    (case c_useless_words => k_is)
    (case k_useless_words => k_is)
    (case a_first_with => k_is)
    (case l_first_with => k_is)
    (case c_first_with => k_is)
    (case k_first_with => k_is)
    (case a_is_within => k_is)
    (case l_is_within => k_is)
    (case c_is_within => k_is)
    (case k_is_within => k_is)
    (case a_first_found => k_is)
    (case l_first_found => k_is)
    (case c_first_found => k_is)
    (case k_first_found => k_is)
    (case a__law_town => k_is)
    (case l__law_town => k_is)
    (case c__law_town => k_is)
    (case k__law_town => k_is)
    (case a__law_draw => k_is)
    (case l__law_draw => k_is)
    (case c__law_draw => k_is)
    (case k__law_draw => k_is)
    (case a__law_pick => k_is)
    (case l__law_pick => k_is)
    (case c__law_pick => k_is)
    (case k__law_pick => k_is)
    (case a__law_word => k_is)
    (case l__law_word => k_is)
    (case c__law_word => k_is)
    (case k__law_word => k_is)
    (case a__law_simple => k_is)
    (case l__law_simple => k_is)
    (case c__law_simple => k_is)
    (case k__law_simple => k_is)
    (case a__law_question => k_is)
    (case l__law_question => k_is)
    (case c__law_question => k_is)
    (case k__law_question => k_is)
    (case a__law_finds => k_is)
    (case l__law_finds => k_is)
    (case c__law_finds => k_is)
    (case k__law_finds => k_is)
    (case a__law_texts => k_is)
    (case l__law_texts => k_is)
    (case c__law_texts => k_is)
    (case k__law_texts => k_is)
    (case a_law => k_is)
    (case l_law => k_is)
    (case c_law => k_is)
    (case k_law => k_is)
    (case ec_first_with => rfl)
    (case mm_first_with => k_is)
    (case vt_first_with => rfl)
    (case zt_first_with => first | rfl | kernel_rfl)
    (case rr_first_with => first | kernel_rfl | decide +kernel)
    (case ec_is_within => rfl)
    (case mm_is_within => k_is)
    (case vt_is_within => rfl)
    (case zt_is_within => first | rfl | kernel_rfl)
    (case rr_is_within => first | kernel_rfl | decide +kernel)
    (case ec_first_found => rfl)
    (case mm_first_found => k_is)
    (case vt_first_found => rfl)
    (case zt_first_found => first | rfl | kernel_rfl)
    (case rr_first_found => first | kernel_rfl | decide +kernel)
    (case ndt => decide)

