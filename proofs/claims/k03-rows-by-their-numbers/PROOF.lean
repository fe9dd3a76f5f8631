import PyProof.Rows.All
import Wide.All
import OpenK.AllK
import Wide.FinOn
import HandS.ForMost
import HandS.ForExc
import HandS.CallSlots
import HandS.Flow
import HandS.TupAny
import HandS.TupMul
import HandS.Zip
import HandS.Wide
import HandS.IsInst
import HandS.OwnEq
import HandS.Defaults
import HandS.Conv
import HandS.EndBits
import HandS.Star
import HandS.MakeKw
import HandS.Style
import HandS.Lambda
import KE.GoesZip
import KE.GoesMore
import KE.GoesEnum
import HandS.ExcInit
import HandS.ExcField
import HandS.TryMany
import HandS.Strs
import HandS.MakeKwOnly
import HandS.Head0
import HandS.Head1
import HandS.Head2
import HandS.HeadEnd
import HandS.HeadHook1
import HandS.HeadHook2
import HandS.EndTab
import HandS.NestedK
import PySem.Challenge.RW_leastkeep_k03_rows_by_their_numbers
set_option Elab.async false
set_option linter.all false
set_option maxRecDepth 100000
/-! A small language (E, I, T) over plain data (D), and what it computes. -/
namespace Mp
open PySem L2

/-- data: what a value stands for; cel n: the n-th shared object of the store -/
inductive D where
  | non | bl (b : Bool) | int (i : Int) | str (x : Str) | tup (l : List D) | lst (l : List D)
  | ins (c : Nat) (ns : List Str) (vs : List D) | cel (n : Nat)
  /-- a tuple that is known to have no attributes of its own -/
  | tpf (l : List D)
  /-- a dict, of which no more is told -/
  | dic
  deriving Inhabited, Repr
/-- a shared object -/
inductive Cell where
  | lst (l : List D) | dct (l : List (L2.Key × D)) | ins (c : Nat) (ns : List Str) (vs : List D) | gone
  deriving Inhabited, Repr
abbrev Store := List Cell
/-- what a name holds: nothing known, a value, a list of its own -/
inductive Sl where
  | no | va (d : D) | ow (l : List D)
  /-- a lambda that was handed in -/
  | th
  deriving Inhabited, Repr
abbrev Ev := List Sl
/-- an exception: its class, its fields -/
structure Exn where
  c : Nat
  ns : List Str
  vs : List D
  deriving Inhabited, Repr
inductive Out (α : Type) where
  | ok (a : α) (S : Store) | exc (x : Exn) (S : Store) | bad
  deriving Inhabited, Repr
def Out.bind {α β : Type} (o : Out α) (f : α → Store → Out β) : Out β := match o with
  | .ok a S => f a S
  | .exc x S => .exc x S
  | .bad => .bad
/-- no exception may leave here -/
def Out.calm {α : Type} : Out α → Out α
  | .exc _ _ => .bad
  | o => o
def Out.of {α : Type} (o : Option α) (S : Store) : Out α := match o with
  | some a => .ok a S
  | none => .bad
@[simp] theorem Out.bind_ok {α β : Type} (a : α) (S : Store) (f : α → Store → Out β) : (Out.ok a S).bind f = f a S := rfl
@[simp] theorem Out.bind_exc {α β : Type} (a : Exn) (S : Store) (f : α → Store → Out β) : (Out.exc a S).bind f = .exc a S := rfl
@[simp] theorem Out.bind_bad {α β : Type} (f : α → Store → Out β) : (Out.bad : Out α).bind f = .bad := rfl
@[simp] theorem Out.of_some {α : Type} (a : α) (S : Store) : Out.of (some a) S = .ok a S := rfl
@[simp] theorem Out.of_none {α : Type} (S : Store) : Out.of (none : Option α) S = .bad := rfl
@[simp] theorem Out.calm_ok {α : Type} (a : α) (S : Store) : (Out.ok a S).calm = .ok a S := rfl

/-! ### plain operations -/
def lineB (n : Nat) : Bool := decide (n ≤ 16777216)
@[irreducible] def mulB (i j : Int) : Bool := decide (i.natAbs < 2 ^ 64) || decide (j.natAbs < 2 ^ 64) || (decide (i.natAbs < 2 ^ 1000) && decide (j.natAbs < 2 ^ 1000))
@[irreducible] def powB (i j : Int) : Bool := decide (0 ≤ j) && decide (j ≤ 1000000) && decide (i.natAbs < 2 ^ 64)
@[irreducible] def divB (j : Int) : Bool := decide (0 < j) && decide (j < 2 ^ 8000)
def repL {α : Type} (l : List α) (k : Nat) : List α := (List.replicate k l).flatten
/-- a text times a whole number -/
def repS (x : Str) (k : Int) : Option Str :=
  if k.natAbs < 2 ^ 60 then
    if k < 1 then some Str.empty else if k = 1 ∨ x.length = 0 then some x else if x.length * k.toNat ≤ 16777216 then some ⟨(List.replicate k.toNat x.cps).foldl (· ++ ·) #[]⟩ else none
  else none
def binD : Operator → D → D → Option D
  | .Add, .int i, .int j => some (.int (i + j))
  | .Add, .str x, .str y => if lineB (x.length + y.length) then some (.str (x ++ y)) else none
  | .Add, .tup x, .tup y => if lineB (x.length + y.length) then some (.tup (x ++ y)) else none
  | .Add, .lst x, .lst y => if lineB (x.length + y.length) then some (.lst (x ++ y)) else none
  | .Sub, .int i, .int j => some (.int (i - j))
  | .Mult, .int i, .int j => if mulB i j then some (.int (i * j)) else none
  | .Mult, .tup x, .int k => if lineB (x.length * k.toNat) && decide (k.natAbs < 2 ^ 60) then some (.tup (repL x k.toNat)) else none
  | .Mult, .lst x, .int k => if lineB (x.length * k.toNat) && decide (k.natAbs < 2 ^ 60) then some (.lst (repL x k.toNat)) else none
  | .Mult, .str x, .int k => (repS x k).map .str
  | .FloorDiv, .int i, .int j => if divB j then some (.int (i / j)) else none
  | .Mod, .int i, .int j => if decide (0 < j) then some (.int (i % j)) else none
  | .LShift, .int i, .int j => if powB i j then some (.int (i * 2 ^ j.toNat)) else none
  | .RShift, .int i, .int j => if decide (0 ≤ j) then some (.int (i / 2 ^ j.toNat)) else none
  | .Pow, .int i, .int j => if powB i j then some (.int (i ^ j.toNat)) else none
  | _, _, _ => none
def negD : D → Option D
  | .int i => some (.int (-i))
  | _ => none
def intO : D → Option (Option Int)
  | .int i => some (some i)
  | _ => none
def augD : Operator → D → D → Option D
  | .Add, .int i, .int j => some (.int (i + j))
  | .Sub, .int i, .int j => some (.int (i - j))
  | _, _, _ => none
def isNonD : D → Bool
  | .non => true
  | _ => false
def truD : D → Option Bool
  | .non => some false
  | .bl b => some b
  | .int i => some (i != 0)
  | .str x => if lineB x.length then some ((x.length : Int) != 0) else none
  | .tup l => some (!l.isEmpty)
  | .lst l => some (!l.isEmpty)
  | _ => none
/-- data without objects, as the library's -/
def toP : D → Option PyData
  | .non => some .none
  | .bl b => some (.bool b)
  | .int i => some (.int i)
  | .str x => some (.str x)
  | .tup l => (toPs l).map .tuple
  | .lst l => (toPs l).map .list
  | _ => none
where toPs : List D → Option (List PyData)
  | [] => some []
  | d :: r => match toP d, toPs r with
    | some p, some q => some (p :: q)
    | _, _ => none
def eqD (a b : D) : Option Bool := match toP a, toP b with
  | some p, some q => if SeqAt.shaped p && SeqAt.shaped q then some (PyData.eqv p q) else none
  | _, _ => none
def flat : D → Option V
  | .non => some .non
  | .bl b => some (.bl b)
  | .int i => some (.int i)
  | .str x => some (.str x)
  | _ => none
def flats : List D → Option (List V)
  | [] => some []
  | d :: r => match flat d, flats r with
    | some p, some q => some (p :: q)
    | _, _ => none
/-- x in l, where x or items of l are lists or tuples -/
def inP (x : D) (l : List D) : Option Bool := match toP x, toP.toPs l with
  | some p, some q => if SeqAt.shaped p && SeqAt.shaped (.list q) then some (q.any fun z => PyData.eqv z p) else none
  | _, _ => none
def inD (x : D) : D → Option Bool
  | .lst l => match flat x, flats l with
    | some v, some vs => some (inV v vs)
    | _, _ => inP x l
  | .tup l => match flat x, flats l with
    | some v, some vs => some (inV v vs)
    | _, _ => inP x l
  | .str z => match x with
    | .str y => some (!(Builtin.Str.occurrences z y 0 z.length 1).isEmpty)
    | _ => none
  | _ => none
def cmpD : CmpOp → D → D → Option Bool
  | .Eq, a, b => eqD a b
  | .NotEq, a, b => (eqD a b).map (!·)
  | .Lt, .int i, .int j => some (decide (i < j))
  | .LtE, .int i, .int j => some (decide (i ≤ j))
  | .Gt, .int i, .int j => some (decide (j < i))
  | .GtE, .int i, .int j => some (decide (j ≤ i))
  | .In, a, b => inD a b
  | .NotIn, a, b => (inD a b).map (!·)
  | _, _, _ => none
def idxD (S : Store) : D → D → Option D
  | .lst l, .int i => atI l i
  | .tup l, .int i => atI l i
  | .str z, .int i => if lineB z.length then (atI z.cps.toList i).map fun c => .str ⟨#[c]⟩ else none
  | .cel n, .int i => match S[n]? with
    | some (.lst l) => atI l i
    | _ => none
  | _, _ => none
def cutL {α : Type} (xs : List α) (lo hi : Option Int) : List α := (xs.drop (HT.sIx xs.length 0 lo)).take (HT.sIx xs.length xs.length hi - HT.sIx xs.length 0 lo)
def slcD (S : Store) : D → Option Int → Option Int → Option D
  | .lst l, lo, hi => some (.lst (cutL l lo hi))
  | .tup l, lo, hi => some (.tup (cutL l lo hi))
  | .cel n, lo, hi => match S[n]? with
    | some (.lst l) => some (.lst (cutL l lo hi))
    | _ => none
  | _, _, _ => none
/-- built-in functions -/
inductive Bi where
  | len | all | any | sum | tuple | list | int | abs
  deriving DecidableEq, Repr, Inhabited
def boolsD : List D → Option (List Bool)
  | [] => some []
  | .bl b :: r => (boolsD r).map (b :: ·)
  | _ :: _ => none
def intsD : List D → Option (List Int)
  | [] => some []
  | .int b :: r => (intsD r).map (b :: ·)
  | _ :: _ => none
def biD (S : Store) : Bi → List D → Option D
  | .len, [.lst l] => some (.int l.length)
  | .len, [.tup l] => some (.int l.length)
  | .len, [.str x] => if lineB x.length then some (.int x.length) else none
  | .len, [.cel n] => match S[n]? with
    | some (.lst l) => some (.int l.length)
    | _ => none
  | .all, [.lst l] => (boolsD l).map fun bs => .bl (bs.all id)
  | .any, [.lst l] => (boolsD l).map fun bs => .bl (bs.any id)
  | .sum, [.lst l] => (intsD l).map fun ns => .int ns.sum
  | .tuple, [.lst l] => some (.tup l)
  | .tuple, [.tup l] => some (.tup l)
  | .list, [.lst l] => some (.lst l)
  | .list, [.tup l] => some (.lst l)
  | .tuple, [.cel n] => match S[n]? with
    | some (.lst l) => some (.tup l)
    | _ => none
  | .list, [.cel n] => match S[n]? with
    | some (.lst l) => some (.lst l)
    | _ => none
  | .int, [.int i] => some (.int i)
  | .int, [.bl b] => some (.int (if b then 1 else 0))
  | .abs, [.int i] => some (.int (if i < 0 then -i else i))
  | _, _ => none
def D.pl : D → D
  | .tpf l => .tup l
  | d => d
inductive Ty where
  | int | bool | str | list | tuple | own (c : Nat)
  deriving DecidableEq, Repr, Inhabited
def isD (S : Store) : D → Ty → Bool
  | .int _, .int => true
  | .bl _, .int => true
  | .bl _, .bool => true
  | .str _, .str => true
  | .lst _, .list => true
  | .tup _, .tuple => true
  | .ins c _ _, .own c' => c == c'
  | .cel n, .list => match S[n]? with
    | some (.lst _) => true
    | _ => false
  | .cel n, .own c' => match S[n]? with
    | some (.ins c _ _) => c == c'
    | _ => false
  | _, _ => false
def okI (S : Store) : D → Bool
  | .tpf _ => false
  | .cel n => match S[n]? with
    | some .gone => false
    | _ => true
  | _ => true
def getF (f : Str) : List Str → List D → Option D
  | n :: ns, v :: vs => if n = f then some v else getF f ns vs
  | _, _ => none
def setF (f : Str) (d : D) : List Str → List D → List Str × List D
  | n :: ns, v :: vs => if n = f then (n :: ns, d :: vs) else let (a, b) := setF f d ns vs; (n :: a, v :: b)
  | _, _ => ([f], [d])
def attD (S : Store) (f : Str) : D → Option D
  | .ins _ ns vs => getF f ns vs
  | .cel n => match S[n]? with
    | some (.ins _ ns vs) => getF f ns vs
    | _ => none
  | _ => none

/-- an instance: its class, its fields -/
def insD (S : Store) : D → Option (Nat × List Str × List D)
  | .ins c ns vs => some (c, ns, vs)
  | .cel n => match S[n]? with
    | some (.ins c ns vs) => some (c, ns, vs)
    | _ => none
  | _ => none
def isInsB (S : Store) (c : Nat) (x : D) : Bool := match insD S x with
  | some (c', _, _) => c' == c
  | none => false
def mthB (S : Store) (c : Nat) (m : Str) (x : D) : Bool := match insD S x with
  | some (c', ns, _) => c' == c && !(ns.contains m)
  | none => false
/-- what an instance may be compared with -/
def othB (S : Store) (c : Nat) : D → Bool
  | .tup _ => true
  | .lst _ => true
  | y => isInsB S c y
def blD (neg : Bool) : D → Option D
  | .bl k => some (.bl (k != neg))
  | _ => none
def lenD : D → Option D
  | .int n => if decide (0 ≤ n) && decide (n < 2 ^ 60) then some (.int n) else none
  | _ => none
mutual
def sameD : D → D → Bool
  | .non, .non => true
  | .bl a, .bl b => a == b
  | .int a, .int b => a == b
  | .str a, .str b => decide (a = b)
  | .tup a, .tup b => sameDs a b
  | .lst a, .lst b => sameDs a b
  | .ins c ns vs, .ins c' ns' vs' => c == c' && decide (ns = ns') && sameDs vs vs'
  | .cel n, .cel m => n == m
  | .tpf a, .tpf b => sameDs a b
  | .dic, .dic => true
  | _, _ => false
def sameDs : List D → List D → Bool
  | [], [] => true
  | a :: r, b :: q => sameD a b && sameDs r q
  | _, _ => false
end
mutual
theorem sameD_eq : ∀ (a b : D), sameD a b = true → a = b
  | .non, b, h => by cases b <;> simp only [sameD] at h <;> first | rfl | cases h
  | .bl a, b, h => by cases b <;> simp only [sameD] at h <;> first | (rw [eq_of_beq h]) | cases h
  | .int a, b, h => by cases b <;> simp only [sameD] at h <;> first | (rw [eq_of_beq h]) | cases h
  | .str a, b, h => by cases b <;> simp only [sameD] at h <;> first | (rw [of_decide_eq_true h]) | cases h
  | .tup a, b, h => by cases b <;> simp only [sameD] at h <;> first | (rw [sameDs_eq _ _ h]) | cases h
  | .lst a, b, h => by cases b <;> simp only [sameD] at h <;> first | (rw [sameDs_eq _ _ h]) | cases h
  | .ins c ns vs, b, h => by
    cases b <;> simp only [sameD, Bool.and_eq_true] at h <;> first | cases h; done | skip
    all_goals first | (rw [eq_of_beq h.1.1, of_decide_eq_true h.1.2, sameDs_eq _ _ h.2]) | cases h
  | .cel _, b, h => by cases b <;> simp only [sameD] at h <;> first | (rw [eq_of_beq h]) | cases h
  | .tpf a, b, h => by cases b <;> simp only [sameD] at h <;> first | (rw [sameDs_eq _ _ h]) | cases h
  | .dic, b, h => by cases b <;> simp only [sameD] at h <;> first | rfl | cases h
theorem sameDs_eq : ∀ (a b : List D), sameDs a b = true → a = b
  | [], b, h => by cases b <;> simp only [sameDs] at h <;> first | rfl | cases h
  | x :: r, b, h => by
    cases b with
    | nil => simp only [sameDs] at h; cases h
    | cons y q =>
      simp only [sameDs, Bool.and_eq_true] at h
      rw [sameD_eq x y h.1, sameDs_eq r q h.2]
end
mutual
theorem sameD_self : ∀ a : D, sameD a a = true
  | .non => by simp only [sameD]
  | .bl a => by simp [sameD]
  | .int a => by simp [sameD]
  | .str a => by simp [sameD]
  | .tup a => by simp only [sameD]; exact sameDs_self a
  | .lst a => by simp only [sameD]; exact sameDs_self a
  | .ins c ns vs => by simp [sameD, sameDs_self vs]
  | .cel n => by simp [sameD]
  | .tpf a => by simp only [sameD]; exact sameDs_self a
  | .dic => by simp only [sameD]
theorem sameDs_self : ∀ a : List D, sameDs a a = true
  | [] => by simp only [sameDs]
  | x :: r => by simp only [sameDs, sameD_self x, sameDs_self r, Bool.and_self]
end
/-- what a walk over a shared list leans on: the list stays -/
abbrev Gd := Option (Nat × List D)
def gdB : Gd → Store → Bool
  | none, _ => true
  | some (n, l), S => match S[n]? with
    | some (.lst l') => sameDs l' l
    | _ => false
/-- {k: v, ..}.get(x, y), the keys texts -/
def dlk : Option D → List (Str × D) → Str → Option D
  | o, [], _ => o
  | o, (k, d) :: r, z => dlk (if z = k then some d else o) r z
def dgtD (ks : List Str) (l : List D) (x y : D) : Option D := match x with
  | .str z => some ((dlk none (ks.zip l) z).getD y)
  | _ => none
/-- data with shared lists read -/
def derP (S : Store) : D → Option PyData
  | .tup l => (derPs S l).map .tuple
  | .lst l => (derPs S l).map .list
  | .cel n => match S[n]? with
    | some (.lst l) => (toP.toPs l).map .list
    | _ => none
  | d => toP d
where derPs (S : Store) : List D → Option (List PyData)
  | [] => some []
  | d :: r => match derP S d, derPs S r with
    | some p, some q => some (p :: q)
    | _, _ => none
def eqDS (S : Store) (a b : D) : Option Bool := match derP S a, derP S b with
  | some p, some q => if SeqAt.shaped p && SeqAt.shaped q then some (PyData.eqv p q) else none
  | _, _ => none
/-- one and the same, as far as it is told -/
def idD : D → D → Bool
  | .cel n, .cel m => n == m
  | a, b => match flat a, flat b with
    | some v, some w => eqV v w
    | _, _ => false
def idTs : List D → List D → Bool
  | [], [] => true
  | a :: r, b :: q => idD a b && idTs r q
  | _, _ => false
/-- the same data, or tuples of the same things -/
def eqDI (S : Store) (a b : D) : Option Bool := match eqDS S a b with
  | some k => some k
  | none => match a, b with
    | .tup l, .tup m => if idTs l m then some true else none
    | _, _ => none
/-- a list, one's own or shared -/
def lstS (S : Store) : D → Option (List D)
  | .lst l => some l
  | .cel n => match S[n]? with
    | some (.lst l) => some l
    | _ => none
  | _ => none
def catD (S : Store) (a b : D) : Option D := match lstS S a, lstS S b with
  | some x, some y => if lineB (x.length + y.length) then some (.lst (x ++ y)) else none
  | _, _ => none
def ixB : Bool → D → Bool
  | true, .tpf _ => true
  | false, .lst _ => true
  | _, _ => false
/-- a.index(x), the items texts -/
def ixoD (tp : Bool) (a x : D) : Option D := match tp, a, x with
  | true, .tpf l, .str z => match strsD l with
    | some ys => (ys.findIdx? (fun y => decide (y = z))).map fun j => .int j
    | none => none
  | false, .lst l, .str z => match strsD l with
    | some ys => (ys.findIdx? (fun y => decide (y = z))).map fun j => .int j
    | none => none
  | _, _, _ => none
where strsD : List D → Option (List Str)
  | [] => some []
  | .str y :: r => (strsD r).map (y :: ·)
  | _ :: _ => none
/-! ### dicts with content -/
def keyD : D → Option L2.Key
  | .int i => some (.inl i)
  | .str x => some (.inr x)
  | _ => none
def dkG (l : List (L2.Key × D)) (k : L2.Key) : Option D := (l.find? fun p => decide (p.1 = k)).map (·.2)
def dkP (l : List (L2.Key × D)) (k : L2.Key) (d : D) : List (L2.Key × D) := if (l.any fun p => decide (p.1 = k)) = true then l.map (fun p => if p.1 = k then (p.1, d) else p) else l ++ [(k, d)]
def dkM (l more : List (L2.Key × D)) : List (L2.Key × D) := more.foldl (fun acc p => dkP acc p.1 p.2) l
def dctC : Option Cell → Option (List (L2.Key × D))
  | some (.dct l) => some l
  | _ => none
def dctS (S : Store) : D → Option (List (L2.Key × D))
  | .cel n => dctC S[n]?
  | _ => none
/-- the dict x at the key y -/
def dctG (S : Store) (x y : D) : Option (Option D) := match dctS S x, keyD y with
  | some l, some k => some (dkG l k)
  | _, _ => none
def celN : D → Option Nat
  | .cel n => some n
  | _ => none
/-! ### the language -/
inductive Tg where
  | nm (i : Nat) | tp (ts : List Tg)
  deriving Inhabited, Repr
mutual
inductive E where
  | var (i : Nat) | pk (i : Nat) | con (c : Const) | glo (x : Str) (d : D)
  | bin (o : Operator) (a b : E) | neg (a : E) | nt (a : E)
  | cmp (o : CmpOp) (a b : E) | cmp2 (o o' : CmpOp) (a b c : E) | isN (a : E) | isNN (a : E)
  | andE (a : E) (es : List E) | orE (a : E) (es : List E) | ife (c a b : E)
  | tupE (es : List E) | lstE (es : List E) | celE (a : E)
  | idx (a i : E) | slc (a : E) (lo hi : Option E) | att (a : E) (f : Str)
  | bcl (b : Bi) (es : List E) | isI (a : E) (cs : List Ty)
  | call (f : Nat) (es : List E) (kn : List Str) (ks : List E)
  | callK (f : Nat) (kn : List Str) (ks : List E) (perm : List Nat)
  | mk (c ini : Nat) (es : List E) | mkK (c ini : Nat) (kn : List Str) (ks : List E) (perm : List Nat)
  | mth (c f : Nat) (m : Str) (a : E) (es : List E)
  | eqO (c f : Nat) (neg : Bool) (a b : E) | lenO (c f : Nat) (a : E) | idxO (c f : Nat) (a i : E)
  | wk (a : E) | tpF (a : E) | eqS (neg : Bool) (a b : E) | eqI (neg : Bool) (a b : E) | catS (a b : E) | ixo (tp : Bool) (a x : E)
  | dgt (ks : List Str) (vs : List E) (a d : E) | dicE (ks : List Str) (vs : List E)
  | lc (el : E) (tg : Tg) (it : I) (ifs : List E) (vs : List Nat)
  /-- f(lambda: b); the call of a lambda -/
  | callT (f : Nat) (b : E) | thk (i : Nat)
  /-- a dict that is shared; d[k]; d.get(k, x); k in d -/
  | dcE (ks : List Str) (vs : List E) | dget (a k : E) | dget2 (a k d : E) | dIn (neg : Bool) (k a : E)
inductive I where
  | seq (e : E) | rng (es : List E) | enm (e : E) | zip (a b : E)
end
/-- what an except suite says: a field of what was caught, a constant, a tuple of such -/
inductive SE where
  | fld (f : Str) | con (c : Const) | tup (l : List SE)
inductive SU where
  | asg (i : Nat) (e : SE) | ret (e : SE) | pass
/-- except c (as the name of a slot): suite -/
structure Hd where
  c : Nat
  as : Option Nat
  su : SU
/-- what a try does with a value -/
inductive Bk where
  | ex | asg (tg : Tg) | ret
inductive T where
  | asg (tg : Tg) (e : E) | asgF (i : Nat) (e : E) | asgA (a : E) (f : Str) (e : E) | asgI (a i e : E)
  | aug (i : Nat) (o : Operator) (e : E) | ex (e : E) | app (i : Nat) (e : E) | clr (i : Nat) | ext (i : Nat) (e : E) | extC (i : Nat) (e : E) | asgO (i : Nat) (k e : E)
  | ifs (c : E) (a b : List T) | fr (tg : Tg) (it : I) (b : List T) | wh (c : E) (b : List T)
  | ret (e : E) | retN | pass | brk | cont | nev | raise (c : Nat) (ns : List Str) (es : List E)
  | frz (is : List Nat) (t : T) | par (is : List Nat) (es : List E)
  | dput (a k e : E) | appE (a e : E) | tr (k : Bk) (e : E) (hs : List Hd)

/-! ### what it computes -/
/-- what the functions and the makers of the program compute -/
structure Cl where
  fn : Nat → List D → List Str → List D → Store → Out D
  /-- a def that is handed a lambda alone: its parameter is called -/
  fnT : Nat → (Store → Out D) → Store → Out D
  /-- the lambda that was handed in here -/
  th : Store → Out D
/-- what a lambda sees of the names around it -/
def capE (ev : Ev) : Ev := ev.map fun s => match s with
  | .va d => .va d
  | _ => .no
/-- a new instance of class c, made by function ini -/
def makeD (C : Cl) (c ini : Nat) (l : List D) (S : Store) : Out D :=
  (C.fn ini (.cel S.length :: l) [] [] (S ++ [.ins c [] []])).bind fun r S2 => match r, S2[S.length]? with
    | .non, some (.ins c' ns vs) => if c' == c then .ok (.ins c ns vs) (S2.set S.length .gone) else .bad
    | _, _ => .bad
def permL (l : List D) : List Nat → Option (List D)
  | [] => some []
  | i :: r => match l[i]?, permL l r with
    | some x, some q => some (x :: q)
    | _, _ => none
def getS (ev : Ev) (i : Nat) : Option D := match ev[i]? with
  | some (.va d) => some d
  | _ => none
def peekS (ev : Ev) (i : Nat) : Option D := match ev[i]? with
  | some (.va d) => some d
  | some (.ow l) => some (.lst l)
  | _ => none
def conD : Const → Option D
  | .none => some .non
  | .bool b => some (.bl b)
  | .int i => some (.int i)
  | .str x => some (.str x)
  | _ => none
mutual
def setT : Tg → D → Ev → Option Ev
  | .nm i, d, ev => if i < ev.length then some (ev.set i (.va d)) else none
  | .tp ts, .tup l, ev => setTs ts l ev
  | _, _, _ => none
def setTs : List Tg → List D → Ev → Option Ev
  | [], [], ev => some ev
  | t :: ts, d :: ds, ev => match setT t d ev with
    | some ev' => setTs ts ds ev'
    | none => none
  | _, _, _ => none
end
def wipeE (ev : Ev) : List Nat → Ev
  | [] => ev
  | v :: vs => (wipeE ev vs).set v .no
/-- a comprehension's turns: none: the item is left out -/
def goLc (gd : Gd) (f : D → Store → Out (Option D)) : List D → Store → Out (List D)
  | [], S => if gdB gd S then .ok [] S else .bad
  | d :: r, S => if gdB gd S then (f d S).bind fun o S1 => (goLc gd f r S1).bind fun l S2 => .ok (match o with | some y => y :: l | none => l) S2 else .bad
def rngD : List D → Option (List D)
  | [.int j] => if decide (-(2 ^ 62) ≤ j) && decide (j < 2 ^ 62) then some ((List.range j.toNat).map fun k : Nat => D.int (k : Int)) else none
  | [.int i, .int j] => if decide (-(2 ^ 62) ≤ i) && decide (i < 2 ^ 62) && decide (-(2 ^ 62) ≤ j) && decide (j < 2 ^ 62) then some ((List.range (j - i).toNat).map fun k : Nat => D.int (i + (k : Int))) else none
  | _ => none
def chars (x : Str) : List D := x.cps.toList.map fun c => D.str ⟨#[c]⟩
def seqD (S : Store) : D → Option (List D × Gd)
  | .lst l => some (l, none)
  | .tup l => some (l, none)
  | .str x => if lineB x.length then some (chars x, none) else none
  | .cel n => match S[n]? with
    | some (.lst l) => some (l, some (n, l))
    | _ => none
  | _ => none
def enmL (l : List D) : List D := (l.zipIdx).map fun p => .tup [.int p.2, p.1]
def enmD (S : Store) : D → Option (List D × Gd)
  | .lst l => some (enmL l, none)
  | .tup l => some (enmL l, none)
  | .cel n => match S[n]? with
    | some (.lst l) => some (enmL l, some (n, l))
    | _ => none
  | _ => none
def zipD (a b : D) : Option (List D × Gd) := match a, b with
  | .lst x, .lst y => some ((x.zip y).map fun p => .tup [p.1, p.2], none)
  | .tup x, .tup y => some ((x.zip y).map fun p => .tup [p.1, p.2], none)
  | _, _ => none
def optI : Option D → Option (Option Int)
  | none => some none
  | some (.int i) => some (some i)
  | _ => none
mutual
def evE (C : Cl) : E → Ev → Store → Out D
  | .var i, ev, S => .of (getS ev i) S
  | .pk i, ev, S => .of (peekS ev i) S
  | .con c, _, S => .of (conD c) S
  | .glo _ d, _, S => .ok d S
  | .bin o a b, ev, S => (evE C a ev S).bind fun x S1 => (evE C b ev S1).bind fun y S2 => .of (binD o x y) S2
  | .neg a, ev, S => (evE C a ev S).bind fun x S1 => .of (negD x) S1
  | .nt a, ev, S => (evE C a ev S).bind fun x S1 => .of ((truD x).map fun b => .bl (!b)) S1
  | .cmp o a b, ev, S => (evE C a ev S).bind fun x S1 => (evE C b ev S1).bind fun y S2 => .of ((cmpD o x y).map .bl) S2
  | .cmp2 o o' a b c, ev, S => (evE C a ev S).bind fun x S1 => (evE C b ev S1).bind fun y S2 => (Out.of (cmpD o x y) S2).bind fun k S3 =>
      if k then (evE C c ev S3).bind fun z S4 => .of ((cmpD o' y z).map .bl) S4 else .ok (.bl false) S3
  | .isN a, ev, S => (evE C a ev S).bind fun x S1 => .ok (.bl (isNonD x)) S1
  | .isNN a, ev, S => (evE C a ev S).bind fun x S1 => .ok (.bl (!isNonD x)) S1
  | .andE a es, ev, S => (evE C a ev S).bind fun x S1 => evAnd C x es ev S1
  | .orE a es, ev, S => (evE C a ev S).bind fun x S1 => evOr C x es ev S1
  | .ife c a b, ev, S => (evE C c ev S).bind fun x S1 => (Out.of (truD x) S1).bind fun k S2 => if k then evE C a ev S2 else evE C b ev S2
  | .tupE es, ev, S => (evEs C es ev S).bind fun l S1 => if lineB l.length then .ok (.tup l) S1 else .bad
  | .lstE es, ev, S => (evEs C es ev S).bind fun l S1 => if lineB l.length then .ok (.lst l) S1 else .bad
  | .celE a, ev, S => (evE C a ev S).bind fun x S1 => match x with
    | .lst l => .ok (.cel S1.length) (S1 ++ [.lst l])
    | _ => .bad
  | .idx a i, ev, S => (evE C a ev S).bind fun x S1 => (evE C i ev S1).bind fun y S2 => .of (idxD S2 x y) S2
  | .slc a lo hi, ev, S => (evE C a ev S).bind fun x S1 => (evO C lo ev S1).bind fun l S2 => (evO C hi ev S2).bind fun u S3 => .of (slcD S3 x l u) S3
  | .att a f, ev, S => (evE C a ev S).bind fun x S1 => .of (attD S1 f x) S1
  | .bcl b es, ev, S => (evEs C es ev S).bind fun l S1 => .of (biD S1 b l) S1
  | .isI a cs, ev, S => (evE C a ev S).bind fun x S1 => if okI S1 x then .ok (.bl (cs.any (isD S1 x))) S1 else .bad
  | .call f es kn ks, ev, S => (evEs C es ev S).bind fun l S1 => (evEs C ks ev S1).bind fun k S2 => C.fn f l kn k S2
  | .callK f _ ks perm, ev, S => (evEs C ks ev S).bind fun l S1 => match permL l perm with
    | some l' => C.fn f l' [] [] S1
    | none => .bad
  | .mk c ini es, ev, S => (evEs C es ev S).bind fun l S1 => makeD C c ini l S1
  | .mkK c ini _ ks perm, ev, S => (evEs C ks ev S).bind fun l S1 => match permL l perm with
    | some l' => makeD C c ini l' S1
    | none => .bad
  | .mth c f m a es, ev, S => (evE C a ev S).bind fun x S1 => if mthB S1 c m x then (evEs C es ev S1).bind fun l S2 => C.fn f (x :: l) [] [] S2 else .bad
  | .eqO c f neg a b, ev, S => (evE C a ev S).bind fun x S1 => (evE C b ev S1).bind fun y S2 => if isInsB S2 c x && othB S2 c y then (C.fn f [x, y] [] [] S2).bind fun r S3 => .of (blD neg r) S3 else .bad
  | .lenO c f a, ev, S => (evE C a ev S).bind fun x S1 => if isInsB S1 c x then (C.fn f [x] [] [] S1).bind fun r S2 => .of (lenD r) S2 else .bad
  | .idxO c f a i, ev, S => (evE C a ev S).bind fun x S1 => (evE C i ev S1).bind fun y S2 => if isInsB S2 c x then C.fn f [x, y] [] [] S2 else .bad
  | .wk a, ev, S => (evE C a ev S).bind fun x S1 => .ok x.pl S1
  | .tpF a, ev, S => (evE C a ev S).bind fun x S1 => .of ((lstS S1 x).map .tpf) S1
  | .eqS neg a b, ev, S => (evE C a ev S).bind fun x S1 => (evE C b ev S1).bind fun y S2 => .of ((eqDS S2 x y).map fun k => .bl (k != neg)) S2
  | .eqI neg a b, ev, S => (evE C a ev S).bind fun x S1 => (evE C b ev S1).bind fun y S2 => .of ((eqDI S2 x y).map fun k => .bl (k != neg)) S2
  | .catS a b, ev, S => (evE C a ev S).bind fun x S1 => (evE C b ev S1).bind fun y S2 => .of (catD S2 x y) S2
  | .ixo tp a b, ev, S => (evE C a ev S).bind fun x S1 => if ixB tp x then (evE C b ev S1).bind fun y S2 => .of (ixoD tp x y) S2 else .bad
  | .dgt ks vs a d, ev, S => (evEs C vs ev S).bind fun l S1 => (evE C a ev S1).bind fun x S2 => (evE C d ev S2).bind fun y S3 => .of (dgtD ks l x y) S3
  | .dicE _ vs, ev, S => (evEs C vs ev S).bind fun _ S1 => .ok .dic S1
  | .lc el tg it ifs vs, ev, S => (evI C it ev S).bind fun q S1 =>
      (goLc q.2 (fun d S2 => match setT tg d (wipeE ev vs) with
        | some ev2 => ((evTests C ifs ev2 S2).bind fun k S3 => if k then (evE C el ev2 S3).bind fun y S4 => .ok (some y) S4 else .ok none S3).calm
        | none => .bad) q.1 S1).bind fun r S2 => if lineB r.length then .ok (.lst r) S2 else .bad
  | .callT f b, ev, S => C.fnT f (fun S1 => evE C b (capE ev) S1) S
  | .thk i, ev, S => match ev[i]? with
    | some .th => C.th S
    | _ => .bad
  | .dcE ks vs, ev, S => (evEs C vs ev S).bind fun l S1 => .ok (.cel S1.length) (S1 ++ [.dct (dkM [] ((ks.zip l).map fun p => (Sum.inr p.1, p.2)))])
  | .dget a k, ev, S => (evE C a ev S).bind fun x S1 => (evE C k ev S1).bind fun y S2 => .of ((dctG S2 x y).bind id) S2
  | .dget2 a k d, ev, S => (evE C a ev S).bind fun x S1 => if (dctS S1 x).isSome then (evE C k ev S1).bind fun y S2 => (evE C d ev S2).bind fun z S3 => .of ((dctG S3 x y).map fun o => o.getD z) S3 else .bad
  | .dIn neg k a, ev, S => (evE C k ev S).bind fun y S1 => (evE C a ev S1).bind fun x S2 => .of ((dctG S2 x y).map fun o => .bl (o.isSome != neg)) S2
def evEs (C : Cl) : List E → Ev → Store → Out (List D)
  | [], _, S => .ok [] S
  | e :: es, ev, S => (evE C e ev S).bind fun x S1 => (evEs C es ev S1).bind fun l S2 => .ok (x :: l) S2
def evO (C : Cl) : Option E → Ev → Store → Out (Option Int)
  | none, _, S => .ok none S
  | some e, ev, S => (evE C e ev S).bind fun x S1 => .of (intO x) S1
/-- x and ..: x is the value so far -/
def evAnd (C : Cl) (x : D) : List E → Ev → Store → Out D
  | [], _, S => .ok x S
  | e :: es, ev, S => (Out.of (truD x) S).bind fun k S1 => if k then (evE C e ev S1).bind fun y S2 => evAnd C y es ev S2 else .ok x S1
def evOr (C : Cl) (x : D) : List E → Ev → Store → Out D
  | [], _, S => .ok x S
  | e :: es, ev, S => (Out.of (truD x) S).bind fun k S1 => if k then .ok x S1 else (evE C e ev S1).bind fun y S2 => evOr C y es ev S2
def evTests (C : Cl) : List E → Ev → Store → Out Bool
  | [], _, S => .ok true S
  | e :: es, ev, S => (evE C e ev S).bind fun x S1 => (Out.of (truD x) S1).bind fun k S2 => if k then evTests C es ev S2 else .ok false S2
def evI (C : Cl) : I → Ev → Store → Out (List D × Gd)
  | .seq e, ev, S => (evE C e ev S).bind fun x S1 => .of (seqD S1 x) S1
  | .rng es, ev, S => (evEs C es ev S).bind fun l S1 => .of ((rngD l).map fun q => (q, none)) S1
  | .enm e, ev, S => (evE C e ev S).bind fun x S1 => .of (enmD S1 x) S1
  | .zip a b, ev, S => (evE C a ev S).bind fun x S1 => (evE C b ev S1).bind fun y S2 => .of (zipD x y) S2
end
inductive Fl where
  | nx (ev : Ev) | rt (d : D) | bk (ev : Ev) | ct (ev : Ev)
  deriving Inhabited, Repr
def goFor (gd : Gd) (f : D → Ev → Store → Out Fl) : List D → Ev → Store → Out Fl
  | [], ev, S => if gdB gd S then .ok (.nx ev) S else .bad
  | d :: r, ev, S => if gdB gd S then (f d ev S).bind fun l S1 => match l with
    | .nx ev1 => goFor gd f r ev1 S1
    | .ct ev1 => goFor gd f r ev1 S1
    | .bk ev1 => .ok (.nx ev1) S1
    | .rt x => .ok (.rt x) S1
    else .bad
def goWh (c : Ev → Store → Out Bool) (f : Ev → Store → Out Fl) : Nat → Ev → Store → Out Fl
  | 0, _, _ => .bad
  | g + 1, ev, S => (c ev S).bind fun k S1 => if k then (f ev S1).bind fun l S2 => match l with
    | .nx ev1 => goWh c f g ev1 S2
    | .ct ev1 => goWh c f g ev1 S2
    | .bk ev1 => .ok (.nx ev1) S2
    | .rt x => .ok (.rt x) S2
    else .ok (.nx ev) S1
def frzE (ev : Ev) : List Nat → Ev
  | [] => ev
  | i :: r => match ev[i]? with
    | some (.ow l) => frzE (ev.set i (.va (.lst l))) r
    | _ => frzE ev r
/-- a new list -/
def isFresh : E → Bool
  | .lstE _ => true
  | .lc _ _ _ _ _ => true
  | .bcl .list _ => true
  | _ => false
/-! ### except suites -/
mutual
def evSE (x : Exn) : SE → Option D
  | .fld f => getF f x.ns x.vs
  | .con c => conD c
  | .tup l => (evSEs x l).map .tup
def evSEs (x : Exn) : List SE → Option (List D)
  | [] => some []
  | e :: r => match evSE x e, evSEs x r with
    | some d, some l => some (d :: l)
    | _, _ => none
end
def asE (ev : Ev) : Option Nat → Ev
  | none => ev
  | some i => ev.set i .no
def evSU (x : Exn) (ev : Ev) (S : Store) : SU → Out Fl
  | .asg i e => match evSE x e with
    | some d => if i < ev.length then .ok (.nx (ev.set i (.va d))) S else .bad
    | none => .bad
  | .ret e => match evSE x e with
    | some d => .ok (.rt d) S
    | none => .bad
  | .pass => .ok (.nx ev) S
def catB (x : Exn) (h : Hd) : Bool := x.c == h.c || h.c == 0
def hdl : List Hd → Exn → Ev → Store → Out Fl
  | [], x, _, S => .exc x S
  | h :: r, x, ev, S => if catB x h then evSU x (asE ev h.as) S h.su else hdl r x ev S
def trK : Bk → D → Ev → Store → Out Fl
  | .ex, _, ev, S => .ok (.nx ev) S
  | .asg tg, x, ev, S => match setT tg x ev with
    | some ev1 => .ok (.nx ev1) S
    | none => .bad
  | .ret, x, _, S => .ok (.rt x) S
def Out.tr {α β : Type} (o : Out α) (f : α → Store → Out β) (h : Exn → Store → Out β) : Out β := match o with
  | .ok a S => f a S
  | .exc x S => h x S
  | .bad => .bad
mutual
def evT (C : Cl) (g : Nat) : T → Ev → Store → Out Fl
  | .asg tg e, ev, S => (evE C e ev S).bind fun x S1 => match setT tg x ev with
    | some ev1 => .ok (.nx ev1) S1
    | none => .bad
  | .asgF i e, ev, S => (evE C e ev S).bind fun x S1 => match x with
    | .lst l => if i < ev.length then .ok (.nx (ev.set i (.ow l))) S1 else .bad
    | _ => .bad
  | .asgA a f e, ev, S => (evE C e ev S).bind fun x S1 => (evE C a ev S1).bind fun o S2 => match o with
    | .cel n => match S2[n]? with
      | some (.ins c ns vs) => if decide (ns.length < 1000) then .ok (.nx ev) (S2.set n (.ins c (setF f x ns vs).1 (setF f x ns vs).2)) else .bad
      | _ => .bad
    | _ => .bad
  | .asgI a i e, ev, S => (evE C e ev S).bind fun x S1 => (evE C a ev S1).bind fun o S2 => (evE C i ev S2).bind fun k S3 => match o, k with
    | .cel n, .int k => match S3[n]? with
      | some (.lst l) => match ixN l.length k with
        | some j => .ok (.nx ev) (S3.set n (.lst (l.set j x)))
        | none => .bad
      | _ => .bad
    | _, _ => .bad
  | .aug i o e, ev, S => match getS ev i with
    | some x => (evE C e ev S).bind fun y S1 => (Out.of (augD o x y) S1).bind fun z S2 => if i < ev.length then .ok (.nx (ev.set i (.va z))) S2 else .bad
    | none => .bad
  | .ex e, ev, S => (evE C e ev S).bind fun _ S1 => .ok (.nx ev) S1
  | .app i e, ev, S => match ev[i]? with
    | some (.ow l) => (evE C e ev S).bind fun x S1 => if l.length < 16777216 then .ok (.nx (ev.set i (.ow (l ++ [x])))) S1 else .bad
    | some (.va (.cel n)) => match S[n]? with
      | some (.lst _) => (evE C e ev S).bind fun x S1 => match S1[n]? with
        | some (.lst l) => if l.length < 16777216 then .ok (.nx ev) (S1.set n (.lst (l ++ [x]))) else .bad
        | _ => .bad
      | _ => .bad
    | _ => .bad
  | .clr i, ev, S => match ev[i]? with
    | some (.ow _) => .ok (.nx (ev.set i (.ow []))) S
    | some (.va (.cel n)) => match S[n]? with
      | some (.lst _) => .ok (.nx ev) (S.set n (.lst []))
      | _ => .bad
    | _ => .bad
  | .ext i e, ev, S => match ev[i]? with
    | some (.ow l) => (evE C e ev S).bind fun x S1 => match x with
      | .lst m => if lineB (l.length + m.length) then .ok (.nx (ev.set i (.ow (l ++ m)))) S1 else .bad
      | _ => .bad
    | some (.va (.cel n)) => match S[n]? with
      | some (.lst _) => (evE C e ev S).bind fun x S1 => match x with
        | .lst m => match S1[n]? with
          | some (.lst l) => if lineB (l.length + m.length) then .ok (.nx ev) (S1.set n (.lst (l ++ m))) else .bad
          | _ => .bad
        | _ => .bad
      | _ => .bad
    | _ => .bad
  | .extC i e, ev, S => match ev[i]? with
    | some (.ow l) => (evE C e ev S).bind fun x S1 => match x with
      | .cel m => match S1[m]? with
        | some (.lst z) => if lineB (l.length + z.length) then .ok (.nx (ev.set i (.ow (l ++ z)))) S1 else .bad
        | _ => .bad
      | _ => .bad
    | some (.va (.cel n)) => match S[n]? with
      | some (.lst _) => (evE C e ev S).bind fun x S1 => match x with
        | .cel m => match S1[n]?, S1[m]? with
          | some (.lst l), some (.lst z) => if lineB (l.length + z.length) then .ok (.nx ev) (S1.set n (.lst (l ++ z))) else .bad
          | _, _ => .bad
        | _ => .bad
      | _ => .bad
    | _ => .bad
  | .asgO i k e, ev, S => (evE C e ev S).bind fun x S1 => match ev[i]? with
    | some (.ow l) => (evE C k ev S1).bind fun k S2 => match k with
      | .int k => match ixN l.length k with
        | some j => .ok (.nx (ev.set i (.ow (l.set j x)))) S2
        | none => .bad
      | _ => .bad
    | _ => .bad
  | .ifs c a b, ev, S => (evE C c ev S).bind fun x S1 => (Out.of (truD x) S1).bind fun k S2 => if k then evTs C g a ev S2 else evTs C g b ev S2
  | .fr tg it b, ev, S => (evI C it ev S).bind fun q S1 => goFor q.2 (fun d ev1 S2 => match setT tg d ev1 with
    | some ev2 => evTs C g b ev2 S2
    | none => .bad) q.1 ev S1
  | .wh c b, ev, S => goWh (fun ev1 S1 => (evE C c ev1 S1).bind fun x S2 => .of (truD x) S2) (fun ev1 S1 => evTs C g b ev1 S1) g ev S
  | .ret e, ev, S => (evE C e ev S).bind fun x S1 => .ok (.rt x) S1
  | .retN, _, S => .ok (.rt .non) S
  | .pass, ev, S => .ok (.nx ev) S
  | .brk, ev, S => .ok (.bk ev) S
  | .cont, ev, S => .ok (.ct ev) S
  | .nev, _, _ => .bad
  | .raise c ns es, ev, S => (evEs C es ev S).bind fun l S1 => if ns.length == l.length then .exc ⟨c, ns.reverse, l.reverse⟩ S1 else .bad
  | .appE a e, ev, S => (evE C a ev S).bind fun o S1 => match o with
    | .cel n => match S1[n]? with
      | some (.lst _) => (evE C e ev S1).bind fun x S2 => match S2[n]? with
        | some (.lst l) => if l.length < 16777216 then .ok (.nx ev) (S2.set n (.lst (l ++ [x]))) else .bad
        | _ => .bad
      | _ => .bad
    | _ => .bad
  | .dput a k e, ev, S => (evE C e ev S).bind fun v S1 => (evE C a ev S1).bind fun x S2 => (evE C k ev S2).bind fun y S3 => match celN x, dctS S3 x, keyD y with
    | some n, some l, some z => if l.length < 16777216 then .ok (.nx ev) (S3.set n (.dct (dkP l z v))) else .bad
    | _, _, _ => .bad
  | .tr k e hs, ev, S => (evE C e ev S).tr (fun x S1 => trK k x ev S1) (fun x S1 => hdl hs x ev S1)
  | .frz is t, ev, S => evT C g t (frzE ev is) S
  | .par is es, ev, S => (evEs C es ev S).bind fun l S1 => if lineB l.length then (match setTs (is.map Tg.nm) l ev with | some ev1 => .ok (.nx ev1) S1 | none => .bad) else .bad
def evTs (C : Cl) (g : Nat) : List T → Ev → Store → Out Fl
  | [], ev, S => .ok (.nx ev) S
  | t :: ts, ev, S => (evT C g t ev S).bind fun l S1 => match l with
    | .nx ev1 => evTs C g ts ev1 S1
    | _ => .ok l S1
end
end Mp

set_option Elab.async false
set_option linter.all false
set_option maxRecDepth 100000
set_option autoImplicit false
set_option maxHeartbeats 1000000
namespace Mp
open PySem PySem.Spec L2

/-- a lambda that was handed in: the function, its code object and name, what it sees -/
structure ThI where
  f : Addr
  c : Addr
  q : Str
  ev : Ev
  σ : St
/-- the written part, the classes by number -/
structure Tp where
  K : PySem.W.Frag
  ct : Nat → Option Addr
  et : Nat → Option Addr
  /-- the tables of the code objects of defs that make lambdas -/
  tabs : List (Addr × Str)
  th : Option ThI
/-- the ghost: what never changes any more (G), where the cells lie -/
structure Gh where
  G : Hp
  io : Nat → Option Addr
/-- a table of code objects: what stands there bears the name q -/
def TabOk (g : Gh) (H : Hp) (P : Addr) (q : Str) : Prop := g.G P = none ∧ (∀ n, g.io n ≠ some P) ∧ ∃ ps : Array Value, H P = some (.tbl ps) ∧ TriplesOk ps.toList ∧ ∀ (pos : Pos) (cv : Value), codeAmong pos ps.toList = some cv → ∃ c, cv = .ref c ∧ g.G c = some (LamX.CodeO c q)
theorem TabOk.mono {g g' : Gh} {H H' : Hp} {P : Addr} {q : Str} (h : TabOk g H P q) (hG : g'.G P = none) (hi : ∀ n, g'.io n ≠ some P) (hH : H' P = H P) (le : ∀ a o, g.G a = some o → g'.G a = some o) : TabOk g' H' P q := by
  obtain ⟨_, _, ps, h1, h2, h3⟩ := h
  exact ⟨hG, hi, ps, hH.trans h1, h2, fun pos cv e => let ⟨c, e1, e2⟩ := h3 pos cv e; ⟨c, e1, le _ _ e2⟩⟩
theorem TabOk.at {g : Gh} {H : Hp} {P : Addr} {q : Str} (h : TabOk g H P q) : ∃ ps, H P = some (.tbl ps) := let ⟨_, _, ps, h1, _⟩ := h; ⟨ps, h1⟩
section
variable (t : Tp)
mutual
def Rep (g : Gh) : D → V → Prop
  | .non, v => v = .non
  | .bl b, v => v = .bl b
  | .int i, v => v = .int i
  | .str x, v => v = .str x
  | .tup l, v => ∃ a xs, v = .ref a ∧ SqT t.K g.G a xs ∧ Reps g l xs
  | .lst l, v => ∃ a xs, v = .ref a ∧ SqL t.K g.G a xs ∧ Reps g l xs
  | .ins c ns vs, v => ∃ a C dx xs, v = .ref a ∧ t.ct c = some C ∧ g.G a = some (.ins C dx (ns.zip xs)) ∧ ns.length = xs.length ∧ Reps g vs xs
  | .cel n, v => ∃ a, v = .ref a ∧ g.io n = some a
  | .tpf l, v => ∃ a xs o, v = .ref a ∧ g.G a = some (.frz o (.tup xs)) ∧ o.cls = .type "tuple" ∧ o.dict = none ∧ Reps g l xs
  | .dic, v => ∃ a kvs, v = .ref a ∧ g.G a = some (.dK kvs)
def Reps (g : Gh) : List D → List V → Prop
  | [], xs => xs = []
  | d :: ds, xs => ∃ x r, xs = x :: r ∧ Rep g d x ∧ Reps g ds r
end
def CellOk (g : Gh) (H : Hp) (a : Addr) : Cell → Prop
  | .lst l => ∃ xs, H a = some (.lst xs) ∧ Reps t g l xs
  | .ins c ns vs => ∃ C dx xs, t.ct c = some C ∧ H a = some (.ins C dx (ns.zip xs)) ∧ ns.length = xs.length ∧ Reps t g vs xs
  | .dct l => ∃ kvs : List (Key × V), H a = some (.dK kvs) ∧ kvs.map (·.1) = l.map (·.1) ∧ Reps t g (l.map (·.2)) (kvs.map (·.2))
  | .gone => ∃ o, H a = some o
def goneC : Cell → Bool
  | .gone => true
  | _ => false
structure Wld (S : Store) (g : Gh) (H : Hp) : Prop where
  sub : ∀ a o, g.G a = some o → H a = some o
  cel : ∀ n c, S[n]? = some c → ∃ a, g.io n = some a ∧ (goneC c = false → g.G a = none) ∧ CellOk t g H a c
  len : ∀ n a, g.io n = some a → n < S.length
  inj : ∀ n m a, g.io n = some a → g.io m = some a → n = m
  tab : ∀ p ∈ t.tabs, TabOk g H p.1 p.2
end
/-- what a piece of the run leaves as it was -/
structure Frm (g : Gh) (H : Hp) (g' : Gh) (H' : Hp) : Prop where
  leG : ∀ a o, g.G a = some o → g'.G a = some o
  leI : ∀ n a, g.io n = some a → g'.io n = some a
  keep : ∀ a o, H a = some o → (∀ n, g.io n ≠ some a) → (∀ ps, o ≠ .tbl ps) → H' a = some o
  newG : ∀ a o, g'.G a = some o → g.G a = some o ∨ H a = none
  newI : ∀ n a, g'.io n = some a → g.io n = some a ∨ H a = none
  live : ∀ a, H a ≠ none → H' a ≠ none
theorem Frm.refl (g : Gh) (H : Hp) : Frm g H g H := ⟨fun _ _ h => h, fun _ _ h => h, fun _ _ h _ _ => h, fun _ _ h => .inl h, fun _ _ h => .inl h, fun _ h => h⟩
theorem Frm.trans {g g1 g2 : Gh} {H H1 H2 : Hp} (a : Frm g H g1 H1) (b : Frm g1 H1 g2 H2) : Frm g H g2 H2 where
  leG := fun x o h => b.leG x o (a.leG x o h)
  leI := fun n x h => b.leI n x (a.leI n x h)
  keep := fun x o h n nt => b.keep x o (a.keep x o h n nt) (fun m q => by
    rcases a.newI m x q with z | z
    · exact n m z
    · rw [z] at h; cases h) nt
  newG := fun x o h => by
    rcases b.newG x o h with z | z
    · exact a.newG x o z
    · right
      cases q : H x with
      | none => rfl
      | some u => exact absurd z (a.live x (by rw [q]; simp))
  newI := fun n x h => by
    rcases b.newI n x h with z | z
    · exact a.newI n x z
    · right
      cases q : H x with
      | none => rfl
      | some u => exact absurd z (a.live x (by rw [q]; simp))
  live := fun x h => b.live x (a.live x h)
section
variable {t : Tp} {g g' : Gh} {H H' : Hp} {S S' : Store}
theorem sqT_mono {K : PySem.W.Frag} {G G' : Hp} {a : Addr} {xs : List V} (le : ∀ a o, G a = some o → G' a = some o) (h : SqT K G a xs) : SqT K G' a xs := by
  rcases h with (h | ⟨o, h⟩) | h
  · exact .inl (.inl (le _ _ h))
  · exact .inl (.inr ⟨o, le _ _ h⟩)
  · exact .inr h
theorem sqL_mono {K : PySem.W.Frag} {G G' : Hp} {a : Addr} {xs : List V} (le : ∀ a o, G a = some o → G' a = some o) (h : SqL K G a xs) : SqL K G' a xs := by
  rcases h with (h | ⟨o, h⟩) | h
  · exact .inl (.inl (le _ _ h))
  · exact .inl (.inr ⟨o, le _ _ h⟩)
  · exact .inr h
mutual
theorem Rep.mono (leG : ∀ a o, g.G a = some o → g'.G a = some o) (leI : ∀ n a, g.io n = some a → g'.io n = some a) : ∀ (d : D) (v : V), Rep t g d v → Rep t g' d v
  | .non, _, h => by simpa only [Rep] using h
  | .bl _, _, h => by simpa only [Rep] using h
  | .int _, _, h => by simpa only [Rep] using h
  | .str _, _, h => by simpa only [Rep] using h
  | .tup l, v, h => by
    simp only [Rep] at h ⊢
    obtain ⟨a, xs, e, q, r⟩ := h
    exact ⟨a, xs, e, sqT_mono leG q, Reps.mono leG leI l xs r⟩
  | .lst l, v, h => by
    simp only [Rep] at h ⊢
    obtain ⟨a, xs, e, q, r⟩ := h
    exact ⟨a, xs, e, sqL_mono leG q, Reps.mono leG leI l xs r⟩
  | .ins c ns vs, v, h => by
    simp only [Rep] at h ⊢
    obtain ⟨a, C, dx, xs, e, hc, q, el, r⟩ := h
    exact ⟨a, C, dx, xs, e, hc, leG _ _ q, el, Reps.mono leG leI vs xs r⟩
  | .cel n, v, h => by
    simp only [Rep] at h ⊢
    obtain ⟨a, e, q⟩ := h
    exact ⟨a, e, leI _ _ q⟩
  | .tpf l, v, h => by
    simp only [Rep] at h ⊢
    obtain ⟨a, xs, o, e, q, h1, h2, r⟩ := h
    exact ⟨a, xs, o, e, leG _ _ q, h1, h2, Reps.mono leG leI l xs r⟩
  | .dic, v, h => by
    simp only [Rep] at h ⊢
    obtain ⟨a, kvs, e, q⟩ := h
    exact ⟨a, kvs, e, leG _ _ q⟩
theorem Reps.mono (leG : ∀ a o, g.G a = some o → g'.G a = some o) (leI : ∀ n a, g.io n = some a → g'.io n = some a) : ∀ (ds : List D) (xs : List V), Reps t g ds xs → Reps t g' ds xs
  | [], _, h => by simpa only [Reps] using h
  | d :: ds, xs, h => by
    simp only [Reps] at h ⊢
    obtain ⟨x, r, e, h1, h2⟩ := h
    exact ⟨x, r, e, Rep.mono leG leI d x h1, Reps.mono leG leI ds r h2⟩
end
theorem Rep.frm (f : Frm g H g' H') {d : D} {v : V} (h : Rep t g d v) : Rep t g' d v := Rep.mono f.leG f.leI d v h
theorem Reps.frm (f : Frm g H g' H') {d : List D} {v : List V} (h : Reps t g d v) : Reps t g' d v := Reps.mono f.leG f.leI d v h
theorem Reps.len : ∀ {ds : List D} {xs : List V}, Reps t g ds xs → ds.length = xs.length
  | [], _, h => by simp only [Reps] at h; subst h; rfl
  | _ :: _, _, h => by
    simp only [Reps] at h
    obtain ⟨x, r, rfl, _, h2⟩ := h
    simp [Reps.len h2]
theorem Reps.get : ∀ {ds : List D} {xs : List V} {i : Nat} {d : D}, Reps t g ds xs → ds[i]? = some d → ∃ x, xs[i]? = some x ∧ Rep t g d x
  | [], _, _, _, _, e => by simp at e
  | _ :: _, _, 0, _, h, e => by
    simp only [Reps] at h
    obtain ⟨x, r, rfl, h1, _⟩ := h
    simp at e; subst e
    exact ⟨x, rfl, h1⟩
  | _ :: _, _, i + 1, _, h, e => by
    simp only [Reps] at h
    obtain ⟨x, r, rfl, _, h2⟩ := h
    simp at e
    obtain ⟨y, q, ry⟩ := Reps.get h2 e
    exact ⟨y, by simpa using q, ry⟩
theorem Reps.gets : ∀ {ds : List D} {xs : List V} {i : Nat} {x : V}, Reps t g ds xs → xs[i]? = some x → ∃ d, ds[i]? = some d ∧ Rep t g d x
  | [], _, _, _, h, e => by simp only [Reps] at h; subst h; simp at e
  | d :: _, _, 0, _, h, e => by
    simp only [Reps] at h
    obtain ⟨x, r, rfl, h1, _⟩ := h
    simp at e; subst e
    exact ⟨d, rfl, h1⟩
  | _ :: _, _, i + 1, _, h, e => by
    simp only [Reps] at h
    obtain ⟨x, r, rfl, _, h2⟩ := h
    simp at e
    obtain ⟨y, q, ry⟩ := Reps.gets h2 e
    exact ⟨y, by simpa using q, ry⟩
theorem Reps.nil : Reps t g [] [] := by simp only [Reps]
theorem Reps.cons {d : D} {x : V} {ds : List D} {xs : List V} (h : Rep t g d x) (r : Reps t g ds xs) : Reps t g (d :: ds) (x :: xs) := by
  simp only [Reps]; exact ⟨x, xs, rfl, h, r⟩
theorem Reps.one {d : D} {x : V} (h : Rep t g d x) : Reps t g [d] [x] := .cons h .nil
theorem Reps.append : ∀ {ds es : List D} {xs ys : List V}, Reps t g ds xs → Reps t g es ys → Reps t g (ds ++ es) (xs ++ ys)
  | [], _, _, _, h, q => by simp only [Reps] at h; subst h; exact q
  | _ :: _, _, _, _, h, q => by
    simp only [Reps] at h
    obtain ⟨x, r, rfl, h1, h2⟩ := h
    exact .cons h1 (Reps.append h2 q)
theorem Reps.drop : ∀ (n : Nat) {ds : List D} {xs : List V}, Reps t g ds xs → Reps t g (ds.drop n) (xs.drop n)
  | 0, _, _, h => h
  | _ + 1, [], _, h => by simp only [Reps] at h; subst h; exact .nil
  | n + 1, _ :: _, _, h => by
    simp only [Reps] at h
    obtain ⟨x, r, rfl, _, h2⟩ := h
    exact Reps.drop n h2
theorem Reps.take : ∀ (n : Nat) {ds : List D} {xs : List V}, Reps t g ds xs → Reps t g (ds.take n) (xs.take n)
  | 0, _, _, h => .nil
  | _ + 1, [], _, h => by simp only [Reps] at h; subst h; exact .nil
  | n + 1, _ :: _, _, h => by
    simp only [Reps] at h
    obtain ⟨x, r, rfl, h1, h2⟩ := h
    exact .cons h1 (Reps.take n h2)
theorem Reps.set {d : D} {x : V} (h : Rep t g d x) : ∀ (n : Nat) {ds : List D} {xs : List V}, Reps t g ds xs → Reps t g (ds.set n d) (xs.set n x)
  | _, [], _, q => by simp only [Reps] at q; subst q; exact .nil
  | 0, _ :: _, _, q => by
    simp only [Reps] at q
    obtain ⟨x, r, rfl, _, h2⟩ := q
    exact .cons h h2
  | n + 1, _ :: _, _, q => by
    simp only [Reps] at q
    obtain ⟨x, r, rfl, h1, h2⟩ := q
    exact .cons h1 (Reps.set h n h2)
theorem Reps.rep {ds : List D} {xs : List V} (h : Reps t g ds xs) : ∀ k : Nat, Reps t g (repL ds k) (List.replicate k xs).flatten
  | 0 => .nil
  | k + 1 => by
    unfold repL
    rw [List.replicate_succ, List.replicate_succ, List.flatten_cons, List.flatten_cons]
    exact h.append (Reps.rep h k)
theorem Reps.eraseIdx : ∀ (n : Nat) {ds : List D} {xs : List V}, Reps t g ds xs → Reps t g (ds.eraseIdx n) (xs.eraseIdx n)
  | _, [], _, q => by simp only [Reps] at q; subst q; exact .nil
  | 0, _ :: _, _, q => by
    simp only [Reps] at q
    obtain ⟨x, r, rfl, _, h2⟩ := q
    exact h2
  | n + 1, _ :: _, _, q => by
    simp only [Reps] at q
    obtain ⟨x, r, rfl, h1, h2⟩ := q
    exact .cons h1 (Reps.eraseIdx n h2)
/-- a weaker word: a list of a name's own may stand outside of G -/
def RepW (t : Tp) (H : Hp) (g : Gh) (d : D) (v : V) : Prop := Rep t g d v ∨ ∃ l p xs, d = .lst l ∧ v = .ref p ∧ H p = some (.lst xs) ∧ (∀ n, g.io n ≠ some p) ∧ Reps t g l xs
theorem RepW.frm (f : Frm g H g' H') {d : D} {v : V} (h : RepW t H g d v) : RepW t H' g' d v := by
  rcases h with h | ⟨l, p, xs, e1, e2, h1, h2, r⟩
  · exact .inl (h.frm f)
  · refine .inr ⟨l, p, xs, e1, e2, f.keep _ _ h1 h2 (fun _ z => nomatch z), fun n q => ?_, r.frm f⟩
    rcases f.newI n p q with z | z
    · exact h2 n z
    · rw [z] at h1; cases h1
theorem RepW.lst {l : List D} {v : V} (w : Wld t S g H) (h : RepW t H g (.lst l) v) : ∃ a xs, v = .ref a ∧ SqL t.K H a xs ∧ Reps t g l xs := by
  rcases h with h | ⟨l', p, xs, e1, e2, h1, h2, r⟩
  · simp only [Rep] at h
    obtain ⟨a, xs, e, q, r⟩ := h
    exact ⟨a, xs, e, sqL_mono w.sub q, r⟩
  · cases e1
    exact ⟨p, xs, e2, .inl (.inl h1), r⟩
theorem RepW.tup {l : List D} {v : V} (w : Wld t S g H) (h : RepW t H g (.tup l) v) : ∃ a xs, v = .ref a ∧ SqT t.K H a xs ∧ Reps t g l xs := by
  rcases h with h | ⟨l', p, xs, e1, e2, h1, h2, r⟩
  · simp only [Rep] at h
    obtain ⟨a, xs, e, q, r⟩ := h
    exact ⟨a, xs, e, sqT_mono w.sub q, r⟩
  · cases e1
theorem RepW.int {i : Int} {v : V} (h : RepW t H g (.int i) v) : v = .int i := by
  rcases h with h | ⟨l', p, xs, e1, _⟩
  · simpa only [Rep] using h
  · cases e1
theorem RepW.str {i : Str} {v : V} (h : RepW t H g (.str i) v) : v = .str i := by
  rcases h with h | ⟨l', p, xs, e1, _⟩
  · simpa only [Rep] using h
  · cases e1
theorem RepW.bl {i : Bool} {v : V} (h : RepW t H g (.bl i) v) : v = .bl i := by
  rcases h with h | ⟨l', p, xs, e1, _⟩
  · simpa only [Rep] using h
  · cases e1
theorem RepW.non {v : V} (h : RepW t H g .non v) : v = .non := by
  rcases h with h | ⟨l', p, xs, e1, _⟩
  · simpa only [Rep] using h
  · cases e1
theorem RepW.cel {n : Nat} {v : V} (h : RepW t H g (.cel n) v) : ∃ a, v = .ref a ∧ g.io n = some a := by
  rcases h with h | ⟨l', p, xs, e1, _⟩
  · simpa only [Rep] using h
  · cases e1
theorem RepW.ins {c : Nat} {ns : List Str} {vs : List D} {v : V} (h : RepW t H g (.ins c ns vs) v) : Rep t g (.ins c ns vs) v := by
  rcases h with h | ⟨l', p, xs, e1, _⟩
  · exact h
  · cases e1
def RepB (t : Tp) (b : Bool) (H : Hp) (g : Gh) (d : D) (v : V) : Prop := if b then Rep t g d v else RepW t H g d v
theorem RepB.weak {b : Bool} {d : D} {v : V} (h : RepB t b H g d v) : RepW t H g d v := by
  cases b with
  | true => exact .inl (by simpa [RepB] using h)
  | false => simpa [RepB] using h
theorem RepB.str {d : D} {v : V} (h : RepB t true H g d v) : Rep t g d v := by simpa [RepB] using h
theorem RepB.of {b : Bool} {d : D} {v : V} (h : Rep t g d v) : RepB t b H g d v := by
  cases b with
  | true => simpa [RepB] using h
  | false => exact .inl h
theorem RepB.frm {b : Bool} (f : Frm g H g' H') {d : D} {v : V} (h : RepB t b H g d v) : RepB t b H' g' d v := by
  cases b with
  | true => exact RepB.of (Rep.frm f h.str)
  | false => exact RepW.frm f h
end
end Mp

set_option Elab.async false
set_option linter.all false
set_option maxRecDepth 100000
set_option autoImplicit false
set_option maxHeartbeats 1000000
namespace Mp
open PySem PySem.Spec L2

/-- what a lambda sees is there -/
def CapOk (t : Tp) (g : Gh) (ev : Ev) (σ : St) : Prop := ev.length = σ.length ∧ ∀ (j : Nat) (s : Sl), ev[j]? = some s → s = .no ∨ ∃ d x, s = .va d ∧ σ[j]? = some (some x) ∧ Rep t g d x
theorem CapOk.mono {t : Tp} {g g' : Gh} {ev : Ev} {σ : St} (h : CapOk t g ev σ) (leG : ∀ a o, g.G a = some o → g'.G a = some o) (leI : ∀ n a, g.io n = some a → g'.io n = some a) : CapOk t g' ev σ := by
  refine ⟨h.1, fun j s e => ?_⟩
  rcases h.2 j s e with z | ⟨d, x, e1, e2, r⟩
  · exact .inl z
  · exact .inr ⟨d, x, e1, e2, Rep.mono leG leI d x r⟩
def SlotOk (t : Tp) (g : Gh) (H : Hp) (v : Option (Option V)) : Sl → Prop
  | .no => True
  | .th => ∃ i, t.th = some i ∧ v = some (some (.ref i.f)) ∧ g.G i.c = some (LamX.CodeO i.c i.q) ∧ CapOk t g i.ev i.σ
  | .va d => ∃ x, v = some (some x) ∧ Rep t g d x
  | .ow l => ∃ p xs, v = some (some (.ref p)) ∧ H p = some (.lst xs) ∧ g.G p = none ∧ (∀ n, g.io n ≠ some p) ∧ Reps t g l xs
structure Slots (t : Tp) (ev : Ev) (g : Gh) (σ : St) (H : Hp) : Prop where
  len : ev.length = σ.length
  at' : ∀ (i : Nat) (s : Sl), ev[i]? = some s → SlotOk t g H σ[i]? s
  dis : ∀ (i j : Nat) (l l' : List D) (p : Addr), ev[i]? = some (.ow l) → ev[j]? = some (.ow l') → σ[i]? = some (some (.ref p)) → σ[j]? = some (some (.ref p)) → i = j
section
variable {t : Tp} {g g' g1 : Gh} {H H' H1 : Hp} {S S' : Store} {ev : Ev} {σ : St}
theorem Frm.gnone (f : Frm g H g' H') {p : Addr} {o : HO} (h : H p = some o) (n : g.G p = none) : g'.G p = none := by
  cases q : g'.G p with
  | none => rfl
  | some u =>
    rcases f.newG p u q with z | z
    · rw [n] at z; cases z
    · rw [h] at z; cases z
theorem Frm.inone (f : Frm g H g' H') {p : Addr} {o : HO} (h : H p = some o) (n : ∀ k, g.io k ≠ some p) : ∀ k, g'.io k ≠ some p := fun k q => by
  rcases f.newI k p q with z | z
  · exact n k z
  · rw [h] at z; cases z
theorem SlotOk.frm (f : Frm g H g' H') {v : Option (Option V)} : ∀ {s : Sl}, SlotOk t g H v s → SlotOk t g' H' v s
  | .no, _ => trivial
  | .th, ⟨i, e1, e2, e3, e4⟩ => ⟨i, e1, e2, f.leG _ _ e3, e4.mono f.leG f.leI⟩
  | .va d, h => by
    obtain ⟨x, e, r⟩ := h
    exact ⟨x, e, r.frm f⟩
  | .ow l, h => by
    obtain ⟨p, xs, e, h1, h2, h3, r⟩ := h
    exact ⟨p, xs, e, f.keep _ _ h1 h3 (fun _ z => nomatch z), f.gnone h1 h2, f.inone h1 h3, r.frm f⟩
theorem Slots.frm (f : Frm g H g' H') (h : Slots t ev g σ H) : Slots t ev g' σ H' :=
  ⟨h.len, fun i s e => (h.at' i s e).frm f, h.dis⟩
theorem Slots.get (h : Slots t ev g σ H) {i : Nat} {d : D} (e : getS ev i = some d) : ∃ x, σ[i]? = some (some x) ∧ Rep t g d x := by
  unfold getS at e
  split at e
  · rename_i d' q
    cases e
    exact h.at' i _ q
  · cases e
theorem Slots.peek (h : Slots t ev g σ H) {i : Nat} {d : D} (e : peekS ev i = some d) : ∃ x, σ[i]? = some (some x) ∧ RepW t H g d x := by
  unfold peekS at e
  split at e
  · rename_i d' q
    cases e
    obtain ⟨x, e, r⟩ := h.at' i _ q
    exact ⟨x, e, .inl r⟩
  · rename_i l q
    cases e
    obtain ⟨p, xs, e, h1, h2, h3, r⟩ := h.at' i _ q
    exact ⟨_, e, .inr ⟨l, p, xs, rfl, rfl, h1, h3, r⟩⟩
  · cases e
/-- a name is given a value -/
theorem Slots.setV (h : Slots t ev g σ H) {i : Nat} {d : D} {v : V} (hi : i < ev.length) (r : Rep t g d v) : Slots t (ev.set i (.va d)) g (σ.set i (some v)) H where
  len := by simpa using h.len
  at' := fun j s e => by
    by_cases hj : i = j
    · subst hj
      rw [List.getElem?_set_self hi] at e
      cases e
      rw [List.getElem?_set_self (by rw [← h.len]; exact hi)]
      exact ⟨v, rfl, r⟩
    · rw [List.getElem?_set_ne hj] at e
      rw [List.getElem?_set_ne hj]
      exact h.at' j s e
  dis := fun j k l l' p e1 e2 e3 e4 => by
    by_cases hj : i = j
    · subst hj
      rw [List.getElem?_set_self hi] at e1; cases e1
    · by_cases hk : i = k
      · subst hk
        rw [List.getElem?_set_self hi] at e2; cases e2
      · rw [List.getElem?_set_ne hj] at e1 e3
        rw [List.getElem?_set_ne hk] at e2 e4
        exact h.dis j k l l' p e1 e2 e3 e4
/-- .. a list of its own, at an address that no name owns -/
theorem Slots.setO (h : Slots t ev g σ H) {i : Nat} {l : List D} {p : Addr} {xs : List V} (hi : i < ev.length) (h1 : H p = some (.lst xs)) (h2 : g.G p = none) (h3 : ∀ n, g.io n ≠ some p) (r : Reps t g l xs)
    (hn : ∀ (j : Nat) (l' : List D), j ≠ i → ev[j]? = some (.ow l') → σ[j]? ≠ some (some (.ref p))) : Slots t (ev.set i (.ow l)) g (σ.set i (some (.ref p))) H where
  len := by simpa using h.len
  at' := fun j s e => by
    by_cases hj : i = j
    · subst hj
      rw [List.getElem?_set_self hi] at e
      cases e
      rw [List.getElem?_set_self (by rw [← h.len]; exact hi)]
      exact ⟨p, xs, rfl, h1, h2, h3, r⟩
    · rw [List.getElem?_set_ne hj] at e
      rw [List.getElem?_set_ne hj]
      exact h.at' j s e
  dis := fun j k l1 l2 q e1 e2 e3 e4 => by
    have hs : i < σ.length := by rw [← h.len]; exact hi
    by_cases hj : i = j
    · by_cases hk : i = k
      · rw [← hj, ← hk]
      · subst hj
        rw [List.getElem?_set_self hs] at e3
        cases e3
        rw [List.getElem?_set_ne hk] at e2 e4
        exact absurd e4 (hn k l2 (Ne.symm hk) e2)
    · by_cases hk : i = k
      · subst hk
        rw [List.getElem?_set_self hs] at e4
        cases e4
        rw [List.getElem?_set_ne hj] at e1 e3
        exact absurd e3 (hn j l1 (Ne.symm hj) e1)
      · rw [List.getElem?_set_ne hj] at e1 e3
        rw [List.getElem?_set_ne hk] at e2 e4
        exact h.dis j k l1 l2 q e1 e2 e3 e4

/-! ### a new thing that never changes -/
def Gh.add (g : Gh) (p : Addr) (o : HO) : Gh := ⟨upd g.G p o, g.io⟩
theorem Wld.gfree (w : Wld t S g H) {p : Addr} (h : H p = none) : g.G p = none := by
  cases q : g.G p with
  | none => rfl
  | some o => rw [w.sub p o q] at h; cases h
theorem Wld.ifree (w : Wld t S g H) {p : Addr} (h : H p = none) : ∀ n, g.io n ≠ some p := fun n q => by
  have hl := w.len n p q
  obtain ⟨c, hc⟩ : ∃ c, S[n]? = some c := ⟨S[n], by simp [hl]⟩
  obtain ⟨a, e1, _, e3⟩ := w.cel n c hc
  rw [q] at e1; cases e1
  cases c with
  | lst l => obtain ⟨xs, e, _⟩ := e3; rw [h] at e; cases e
  | ins c ns vs => obtain ⟨_, _, _, _, e, _⟩ := e3; rw [h] at e; cases e
  | dct l => obtain ⟨_, e, _⟩ := e3; rw [h] at e; cases e
  | gone => obtain ⟨o, e⟩ := e3; rw [h] at e; cases e
theorem CellOk.frm {a : Addr} (f : Frm g H g' H') (hk : ∀ o, H a = some o → H' a = some o) : ∀ {c : Cell}, CellOk t g H a c → CellOk t g' H' a c
  | .lst l, ⟨xs, e, r⟩ => ⟨xs, hk _ e, r.frm f⟩
  | .ins c ns vs, ⟨C, dx, xs, hc, e, el, r⟩ => ⟨C, dx, xs, hc, hk _ e, el, r.frm f⟩
  | .dct _, ⟨kvs, e, ek, r⟩ => ⟨kvs, hk _ e, ek, r.frm f⟩
  | .gone, ⟨o, e⟩ => ⟨o, hk _ e⟩
theorem Frm.fresh (w : Wld t S g H) {p : Addr} {o : HO} (h : H p = none) : Frm g H g (upd H p o) :=
  ⟨fun _ _ e => e, fun _ _ e => e, fun a u e _ _ => by rw [upd_ne (ne_of_none e h)]; exact e, fun _ _ e => .inl e, fun _ _ e => .inl e, fun a e => by
    by_cases hp : a = p
    · rw [hp, upd_same]; simp
    · rw [upd_ne hp]; exact e⟩
theorem Wld.fresh (w : Wld t S g H) {p : Addr} {o : HO} (h : H p = none) : Wld t S g (upd H p o) where
  sub := fun a u e => by rw [upd_ne (ne_of_none (w.sub a u e) h)]; exact w.sub a u e
  cel := fun n c e => by
    obtain ⟨a, e1, e2, e3⟩ := w.cel n c e
    refine ⟨a, e1, e2, e3.frm (Frm.fresh w h) fun u q => ?_⟩
    rw [upd_ne (ne_of_none q h)]; exact q
  len := w.len
  inj := w.inj
  tab := fun q hq => (w.tab q hq).mono (w.tab q hq).1 (w.tab q hq).2.1 (upd_ne (fun z => by
    obtain ⟨ps, e⟩ := (w.tab q hq).at
    rw [z, h] at e; cases e)) fun _ _ e => e
theorem Frm.add (w : Wld t S g H) {p : Addr} {o : HO} (h : H p = some o) (hn : g.G p = none) : (∀ a u, g.G a = some u → (g.add p o).G a = some u) ∧ ∀ a u, (g.add p o).G a = some u → g.G a = some u ∨ a = p := by
  constructor
  · intro a u e
    show upd g.G p o a = some u
    rw [upd_ne (ne_of_none e hn)]; exact e
  · intro a u e
    by_cases ha : a = p
    · exact .inr ha
    · have e' : upd g.G p o a = some u := e
      rw [upd_ne ha] at e'
      exact .inl e'
/-- what stood for itself is frozen -/
theorem Wld.add (w : Wld t S g H) {p : Addr} {o : HO} (h : H p = some o) (hn : g.G p = none) (hi : ∀ n, g.io n ≠ some p) (ht : ∀ ps, o ≠ .tbl ps := by intro _ z; cases z) : Wld t S (g.add p o) H where
  sub := fun a u e => by
    rcases (Frm.add w h hn).2 a u e with z | z
    · exact w.sub a u z
    · subst z
      have e' : upd g.G a o a = some u := e
      rw [upd_same] at e'; cases e'; exact h
  cel := fun n c e => by
    obtain ⟨a, e1, e2, e3⟩ := w.cel n c e
    have ne : a ≠ p := fun z => by subst z; exact hi n e1
    refine ⟨a, e1, ?_, ?_⟩
    · intro hg
      show upd g.G p o a = none
      rw [upd_ne ne]; exact e2 hg
    · have mo : ∀ {l : List D} {xs : List V}, Reps t g l xs → Reps t (g.add p o) l xs := fun r => Reps.mono (Frm.add w h hn).1 (fun _ _ q => q) _ _ r
      cases c with
      | lst l => obtain ⟨xs, q, r⟩ := e3; exact ⟨xs, q, mo r⟩
      | ins c ns vs => obtain ⟨C, dx, xs, hc, q, el, r⟩ := e3; exact ⟨C, dx, xs, hc, q, el, mo r⟩
      | dct _ => obtain ⟨kvs, q, ek, r⟩ := e3; exact ⟨kvs, q, ek, mo r⟩
      | gone => exact e3
  len := w.len
  inj := w.inj
  tab := fun q hq => (w.tab q hq).mono (by
    show upd g.G p o q.1 = none
    rw [upd_ne (fun z => by
      obtain ⟨ps, e⟩ := (w.tab q hq).at
      rw [z, h] at e; cases e; exact ht _ rfl)]; exact (w.tab q hq).1) (w.tab q hq).2.1 rfl (Frm.add w h hn).1
/-- a shared object is frozen, its cell is left behind -/
theorem Wld.seal (w : Wld t S g H) {n : Nat} {p : Addr} {o : HO} {c : Cell} (hi : g.io n = some p) (hc : S[n]? = some c) (hg : goneC c = false) (h : H p = some o) : Wld t (S.set n .gone) (g.add p o) H where
  sub := fun a u e => by
    by_cases ha : a = p
    · subst ha
      have e' : upd g.G a o a = some u := e
      rw [upd_same] at e'; cases e'; exact h
    · have e' : upd g.G p o a = some u := e
      rw [upd_ne ha] at e'
      exact w.sub a u e'
  cel := fun m c' e => by
    have hn : n < S.length := (List.getElem?_eq_some_iff.mp hc).1
    by_cases hm : n = m
    · subst hm
      rw [List.getElem?_set_self hn] at e
      cases e
      exact ⟨p, hi, (fun z => nomatch z), o, h⟩
    · rw [List.getElem?_set_ne hm] at e
      obtain ⟨a, e1, e2, e3⟩ := w.cel m c' e
      have ne : a ≠ p := fun z => by subst z; exact hm (w.inj n m a hi e1)
      have hG : g.G p = none := by
        obtain ⟨a', q1, q2, _⟩ := w.cel n c hc
        rw [hi] at q1; cases q1
        exact q2 hg
      refine ⟨a, e1, fun hg' => ?_, ?_⟩
      · show upd g.G p o a = none
        rw [upd_ne ne]; exact e2 hg'
      · have mo : ∀ {l : List D} {xs : List V}, Reps t g l xs → Reps t (g.add p o) l xs := fun r => Reps.mono (Frm.add w h hG).1 (fun _ _ q => q) _ _ r
        cases c' with
        | lst l => obtain ⟨xs, q, r⟩ := e3; exact ⟨xs, q, mo r⟩
        | ins c ns vs => obtain ⟨C, dx, xs, hc, q, el, r⟩ := e3; exact ⟨C, dx, xs, hc, q, el, mo r⟩
        | dct _ => obtain ⟨kvs, q, ek, r⟩ := e3; exact ⟨kvs, q, ek, mo r⟩
        | gone => exact e3
  len := fun m a e => by rw [List.length_set]; exact w.len m a e
  inj := w.inj
  tab := fun q hq => by
    have hG : g.G p = none := by
      obtain ⟨a', q1, q2, _⟩ := w.cel n c hc
      rw [hi] at q1; cases q1
      exact q2 hg
    refine (w.tab q hq).mono ?_ (w.tab q hq).2.1 rfl (Frm.add w h hG).1
    show upd g.G p o q.1 = none
    rw [upd_ne (fun z => by exact (w.tab q hq).2.1 n (by rw [z]; exact hi))]; exact (w.tab q hq).1
/-- a new object, frozen at once -/
theorem Wld.new (w : Wld t S g H) {p : Addr} {o : HO} (h : H p = none) (ht : ∀ ps, o ≠ .tbl ps := by intro _ z; cases z) : Wld t S (g.add p o) (upd H p o) :=
  (w.fresh h).add upd_same (w.gfree h) (w.ifree h) ht
theorem Frm.freeze (f : Frm g H g' H') {p : Addr} {o : HO} (h : H p = none) (hn : g'.G p = none) : Frm g H (g'.add p o) H' where
  leG := fun a u e => by
    show upd g'.G p o a = some u
    rw [upd_ne (ne_of_none (f.leG a u e) hn)]; exact f.leG a u e
  leI := f.leI
  keep := f.keep
  newG := fun a u e => by
    by_cases ha : a = p
    · subst ha; exact .inr h
    · have e' : upd g'.G p o a = some u := e
      rw [upd_ne ha] at e'
      exact f.newG a u e'
  newI := f.newI
  live := f.live
theorem Frm.new (w : Wld t S g H) {p : Addr} {o : HO} (h : H p = none) : Frm g H (g.add p o) (upd H p o) :=
  (Frm.fresh w h).freeze h (w.gfree h)
theorem SqT.added {K : PySem.W.Frag} {p : Addr} {xs : List V} : SqT K (g.add p (.tup xs)).G p xs := .inl (.inl upd_same)
theorem SqL.added {K : PySem.W.Frag} {p : Addr} {xs : List V} : SqL K (g.add p (.lst xs)).G p xs := .inl (.inl upd_same)
theorem Rep.newT (w : Wld t S g H) {p : Addr} {l : List D} {xs : List V} (h : H p = none) (r : Reps t g l xs) : Rep t (g.add p (.tup xs)) (.tup l) (.ref p) := by
  simp only [Rep]
  exact ⟨p, xs, rfl, SqT.added, r.frm (Frm.new w h)⟩
theorem Rep.newL (w : Wld t S g H) {p : Addr} {l : List D} {xs : List V} (h : H p = none) (r : Reps t g l xs) : Rep t (g.add p (.lst xs)) (.lst l) (.ref p) := by
  simp only [Rep]
  exact ⟨p, xs, rfl, SqL.added, r.frm (Frm.new w h)⟩
end

/-- what is known stays known -/
def Le (g g' : Gh) : Prop := (∀ a o, g.G a = some o → g'.G a = some o) ∧ ∀ n a, g.io n = some a → g'.io n = some a
theorem Le.refl (g : Gh) : Le g g := ⟨fun _ _ h => h, fun _ _ h => h⟩
theorem Le.trans {g g1 g2 : Gh} (a : Le g g1) (b : Le g1 g2) : Le g g2 := ⟨fun x o h => b.1 x o (a.1 x o h), fun n x h => b.2 n x (a.2 n x h)⟩
theorem Frm.le {g g' : Gh} {H H' : Hp} (f : Frm g H g' H') : Le g g' := ⟨f.leG, f.leI⟩
theorem Rep.le {t : Tp} {g g' : Gh} (l : Le g g') {d : D} {v : V} (r : Rep t g d v) : Rep t g' d v := Rep.mono l.1 l.2 _ _ r

/-! ### what is wanted behind a piece -/
/-- an exception as it flies: its class, its own dict -/
def ExR (t : Tp) (g : Gh) (H : Hp) (e : Exn) (cls : Value) (d : Option Addr) : Prop :=
  ∃ C dx xs, cls = .ref C ∧ t.et e.c = some C ∧ d = some dx ∧ H dx = some (.xd (e.ns.zip xs)) ∧ e.ns.length = xs.length ∧ (∀ n, g.io n ≠ some dx) ∧ Reps t g e.vs xs
def Aft {α β : Type} (t : Tp) (W : XK) (R : Hp → Gh → α → β → Prop) (g : Gh) (H : Hp) (o : Out α) (Q : β → Hp → Prop) : Prop := match o with
  | .ok a S' => ∀ v H' g', Frm g H g' H' → Wld t S' g' H' → R H' g' a v → Q v H'
  | .exc e S' => ∀ cls d H' g', Frm g H g' H' → Wld t S' g' H' → ExR t g' H' e cls d → W cls d H'
  | .bad => False
def rd {α β : Type} (t : Tp) (W : WX) (R : Hp → Gh → α → β → Prop) (f : Ev → Store → Out α) : St → Hp → (β → Hp → Prop) → Prop := fun σ H Q =>
  ∃ ev S g, Slots t ev g σ H ∧ Wld t S g H ∧ Aft t (fun c d H' => W c d σ H') R g H (f ev S) Q
section
variable {α β γ δ : Type} {t : Tp} {W : XK} {R : Hp → Gh → α → β → Prop} {R1 : Hp → Gh → γ → δ → Prop} {g g1 : Gh} {H H1 : Hp} {o : Out α} {Q Q' : β → Hp → Prop}
theorem Aft.mono (h : Aft t W R g H o Q) (k : ∀ v H', Q v H' → Q' v H') : Aft t W R g H o Q' := by
  cases o with
  | ok a S => exact fun v H' g' f w r => k _ _ (h v H' g' f w r)
  | exc e S => exact h
  | bad => exact h
theorem Aft.shift (f : Frm g H g1 H1) (h : Aft t W R g H o Q) : Aft t W R g1 H1 o Q := by
  cases o with
  | ok a S => exact fun v H' g' f' w r => h v H' g' (f.trans f') w r
  | exc e S => exact fun c d H' g' f' w r => h c d H' g' (f.trans f') w r
  | bad => exact h
theorem Aft.bind {p : Out γ} {k : γ → Store → Out α} (h : Aft t W R g H (p.bind k) Q) :
    Aft t W R1 g H p (fun v H1 => ∃ a S1 g1, Frm g H g1 H1 ∧ Wld t S1 g1 H1 ∧ R1 H1 g1 a v ∧ Aft t W R g1 H1 (k a S1) Q) := by
  cases p with
  | ok a S => exact fun v H' g' f w r => ⟨a, S, g', f, w, r, Aft.shift f h⟩
  | exc e S => exact h
  | bad => exact h
theorem Aft.of {x : Option α} {S : Store} (h : Aft t W R g H (.of x S) Q) : ∃ a, x = some a ∧ ∀ v H' g', Frm g H g' H' → Wld t S g' H' → R H' g' a v → Q v H' := by
  cases x with
  | none => exact h.elim
  | some a => exact ⟨a, rfl, h⟩
theorem Aft.calm {x : Out α} (h : Aft t W R g H x.calm Q) : Aft t (fun _ _ _ => False) R g H x Q := by
  cases x with
  | ok a S => exact h
  | exc e S => exact h.elim
  | bad => exact h
theorem Aft.imp {W' : XK} (h : Aft t W R g H o Q) (k : ∀ c d H', W c d H' → W' c d H') : Aft t W' R g H o Q := by
  cases o with
  | ok a S => exact h
  | exc e S => exact fun c d H' g' f w r => k _ _ _ (h c d H' g' f w r)
  | bad => exact h
end
end Mp

set_option Elab.async false
set_option linter.all false
set_option maxRecDepth 100000
set_option autoImplicit false
set_option maxHeartbeats 1000000
namespace Mp
open PySem PySem.Spec L2

/-! ### tuples times whole numbers -/
section
open PyProof.Rows
theorem tuple_mul1 (l : Addr) (items : Array Value) (n : Nat) (dd : Option Addr) (sl : Array (Option Value)) (x : Int) (u : Tok) (c0 : (decide (x < -(2 ^ 63)) || decide (x ≥ 2 ^ 63)) = false) (c1 : (items.isEmpty || x == 1) = true) :
    Meets (Builtin.«tuple.__mul__» ⟨[.ref l, .int x u], []⟩) (fun _ R s => s.heap.get? l = some { cls := .type "tuple", dict := dd, data := .seq items n, slots := sl } ∧ ∀ tk, R (.ok (.ret (Value.ref l))) { s with toks := tk }) :=
  .of_wp fun prog w A R s h => by
    obtain ⟨hp, g, d, tk, os⟩ := s
    obtain ⟨hl, h⟩ := h
    have f1 := AutoSeq1.idx_int
    wp_walk using wpAny_loadPart' hl
    repeat (first
      | (refine wpAny_ite_false (decide_eq_false (by rw [c0]; exact Bool.false_ne_true)) ?_; wp_walk using wpAny_loadPart' hl)
      | (refine wpAny_ite_true (decide_eq_true c1) ?_; wp_walk using wpAny_loadPart' hl))
    exact ⟨_, rfl, h _⟩
theorem tuple_mul0 (l : Addr) (items : Array Value) (n : Nat) (dd : Option Addr) (sl : Array (Option Value)) (x : Int) (u : Tok) (c0 : (decide (x < -(2 ^ 63)) || decide (x ≥ 2 ^ 63)) = false) (c1 : (items.isEmpty || x == 1) = false) (c2 : (decide (x ≤ 0) || items.isEmpty) = true) :
    Meets (Builtin.«tuple.__mul__» ⟨[.ref l, .int x u], []⟩) (fun _ R s => s.heap.get? l = some { cls := .type "tuple", dict := dd, data := .seq items n, slots := sl } ∧
      R (.ok (.ret (Value.ref s.heap.objs.size))) { s with heap := s.heap.push { cls := Value.type "tuple", data := Data.seq #[] }, toks := s.toks }) :=
  .of_wp fun prog w A R s h => by
    obtain ⟨hp, g, d, tk, os⟩ := s
    obtain ⟨hl, h⟩ := h
    have f1 := AutoSeq1.idx_int
    wp_walk using wpAny_loadPart' hl
    repeat (first
      | (refine wpAny_ite_false (decide_eq_false (by rw [c0]; exact Bool.false_ne_true)) ?_; wp_walk using wpAny_loadPart' hl)
      | (refine wpAny_ite_false (decide_eq_false (by rw [c1]; exact Bool.false_ne_true)) ?_; wp_walk using wpAny_loadPart' hl)
      | (refine wpAny_ite_true (decide_eq_true c2) ?_; wp_walk using wpAny_loadPart' hl))
    exact ⟨_, rfl, h⟩
end
section
variable {X : Cx}
def rRepA (K : PySem.W.Frag) : R2 := fun x y H Q => ∃ l k xs, x = .ref l ∧ y = .int k ∧ SqT K H l xs ∧ -(2 ^ 62) ≤ k ∧ k < 2 ^ 62 ∧ xs.length * k.toNat ≤ sizeLine ∧
  ((xs = [] ∨ k = 1) → Q (.ref l) H) ∧ (¬ (xs = [] ∨ k = 1) → ∀ p, H p = none → Q (.ref p) (upd H p (.tup (List.replicate k.toNat xs).flatten)))
theorem op_repA : OpR X (binaryOp .Mult) (rRepA X.K) := by
  intro pins s σ H x y v u Q I rx ry h
  obtain ⟨l, k, xs, rfl, rfl, hT, h1, h2, hz, q1, q2⟩ := h
  cases rx
  obtain ⟨t, rfl⟩ := ry
  obtain ⟨its, r, ⟨⟨cls, dd, data, sl⟩, ho, hc, n, hd⟩, hs⟩ := I.tuple hT
  simp only at hc hd
  subst hc hd
  have hle : its.length = xs.length := r.length.symm
  have hsz0 : its.toArray.size = xs.length := by rw [List.size_toArray, hle]
  have c0 : (decide (k < -(2 ^ 63)) || decide (k ≥ 2 ^ 63)) = false := by
    rw [decide_eq_false (by omega), decide_eq_false (by omega)] <;> rfl
  have ie : its.toArray.isEmpty = xs.isEmpty := by
    cases r with
    | nil => rfl
    | cons _ _ => rfl
  have road : ∀ {Q' : Value → Shared → Prop} {E : Value → Shared → Prop}, wpAny (model X.prog X.w) X.A (call (.builtin "tuple.__mul__") [.ref l, .int k t]) Q' E s → wpAny (model X.prog X.w) X.A (binaryOp .Mult (.ref l) (.int k t)) Q' E s := fun hq =>
    PySem.wpAny_binaryOp_repeat_ref (T := "tuple") (U := "int") (by decide) ⟨_, ho, rfl⟩ (fun s' => typeIs_int s' k t) noFill_tuple_mul F.fills_int_mul F.slot_int_rmul repeat_tuple F.slot_int_index.lookup
      (call_meets F.slot_int_rmul (typeIs_int s k t) F.entry_int_rmul (F.args_int_rmul_2 _ _) (int_rmul_tuple k t l its.toArray n dd sl) ⟨ho, rfl, ⟨_, ho, rfl⟩, hq⟩)
  by_cases hx : xs = [] ∨ k = 1
  · refine road (call_meets F.slot_tuple_mul ⟨_, ho, rfl⟩ F.entry_tuple_mul (F.args_tuple_mul_2 _ _) (tuple_mul1 l its.toArray n dd sl k t c0 ?_) ⟨ho, fun tk => ?_⟩)
    · rw [ie]
      rcases hx with e | e
      · rw [e]; rfl
      · rw [e]; simp
    · exact ⟨.ref l, H, I.tok _, rfl, q1 hx⟩
  · have q2' := q2 hx
    have hne : xs ≠ [] := fun e => hx (.inl e)
    have hk1 : k ≠ 1 := fun e => hx (.inr e)
    have hi : its.toArray.isEmpty = false := by rw [ie]; cases xs with | nil => exact absurd rfl hne | cons _ _ => rfl
    have c1 : (its.toArray.isEmpty || k == 1) = false := by rw [hi, Bool.false_or]; exact beq_eq_false_iff_ne.mpr hk1
    by_cases hk : k ≤ 0
    · have c2 : (decide (k ≤ 0) || its.toArray.isEmpty) = true := by rw [decide_eq_true hk]; rfl
      refine road (call_meets F.slot_tuple_mul ⟨_, ho, rfl⟩ F.entry_tuple_mul (F.args_tuple_mul_2 _ _) (tuple_mul0 l its.toArray n dd sl k t c0 c1 c2) ⟨ho, ?_⟩)
      have e0 : k.toNat = 0 := by omega
      rw [e0] at q2'
      exact ⟨.ref _, _, I.laid (a := s.heap.objs.size) (o := .tup []) (t' := s.toks) (fun b o e => Heap.get?_push_of_some _ e) (Nat.le_refl _) ⟨Nat.zero_le _, [], .nil, PyProof.Rows.IsTup.new s.heap #[]⟩, rfl, q2' _ (I.hok.fresh (Nat.le_refl _))⟩
    · have c2 : (decide (k ≤ 0) || its.toArray.isEmpty) = false := by rw [hi, Bool.or_false]; exact decide_eq_false hk
      have hmn : ((its.toArray.size : Nat) : Int) * k = ((xs.length * k.toNat : Nat) : Int) := by
        rw [hsz0, Int.natCast_mul, Int.toNat_of_nonneg (by omega)]
      have hm : ((its.toArray.size : Nat) : Int) * k ≤ 16777216 := by
        rw [hmn]; rw [sizeLine_eq] at hz; omega
      have flen : (List.replicate k.toNat its).flatten.length ≤ sizeLine := by
        rw [PyProof.Rows.lm_len_rep_flat, hle, Nat.mul_comm]; exact hz
      have c4 : Builtin.Tuple.tupleTooMany (((its.toArray.size : Nat) : Int) * k) = false := by
        unfold Builtin.Tuple.tupleTooMany
        rw [sizeLine_eq]
        exact decide_eq_false (by omega)
      refine road (call_meets F.slot_tuple_mul ⟨_, ho, rfl⟩ F.entry_tuple_mul (F.args_tuple_mul_2 _ _) (tuple_mulW l its.toArray n dd sl k t c0 c1 c2 (by omega) c4 (by rw [size_rep, List.size_toArray]; exact flen)) ⟨ho, ?_⟩)
      rw [size_rep]
      refine ⟨.ref _, _, I.laid (a := s.heap.objs.size) (o := .tup (List.replicate k.toNat xs).flatten) (t' := s.toks) (fun b o e => Heap.get?_push_of_some _ e) (Nat.le_refl _) ⟨?_, _, r.rep k.toNat, PyProof.Rows.IsTup.new s.heap _⟩, rfl, q2' _ (I.hok.fresh (Nat.le_refl _))⟩
      rw [PyProof.Rows.lm_len_rep_flat, Nat.mul_comm]; exact hz
/-- lists, however they are read -/
def rCatL (K : PySem.W.Frag) : R2 := fun x y H Q => ∃ l b xs zs, x = .ref l ∧ y = .ref b ∧ SqL K H l xs ∧ SqL K H b zs ∧ xs.length + zs.length ≤ sizeLine ∧ ∀ p, H p = none → Q (.ref p) (upd H p (.lst (xs ++ zs)))
theorem op_catL : OpR X (binaryOp .Add) (rCatL X.K) := by
  intro pins s σ H x y v u Q I rx ry h
  obtain ⟨l, b, xs, zs, rfl, rfl, hH, hB, hz, q⟩ := h
  cases rx
  cases ry
  obtain ⟨its, r, ⟨⟨cls, dd, data, sl⟩, n, ho, hc, hdd, hd⟩, hs⟩ := I.list hH
  obtain ⟨its2, r2, ⟨⟨cls2, dd2, data2, sl2⟩, n2, ho2, hc2, hdd2, hd2⟩, hs2⟩ := I.list hB
  simp only at hc hd hc2 hd2
  subst hc hd hc2 hd2
  have e : its.toArray ++ its2.toArray = (its ++ its2).toArray := by simp
  have hl : its.length + its2.length ≤ sizeLine := by rw [← r.length, ← r2.length]; exact hz
  refine PySem.concat_meets ⟨_, ho, rfl⟩ ⟨_, ho2, rfl⟩ PySem.noFill_list_add PySem.seq_list_add PySem.F.slot_list_add PySem.F.entry_list_add (PySem.F.args_list_add_2 _ _) (PyProof.Rows.list_addW l b its.toArray its2.toArray n n2 dd dd2 sl sl2 (by simpa using hl)) ⟨ho, ho2, ?_⟩
  rw [e]
  exact ⟨.ref _, _, I.lnew (t' := s.toks) (r.append r2) (by rw [List.length_append]; omega), rfl, q _ I.fresh⟩
end

section
open PyProof.Rows
theorem list_mulW (l : Addr) (items : Array Value) (n : Nat) (dd : Option Addr) (sl : Array (Option Value)) (x : Int) (u : Tok) (hc0 : ¬(!Builtin.List.listFitsIndex x) = true) (hc1 : ¬items.size * x.toNat > (2 ^ 63 - 1) / 8) (hc2 : ¬Builtin.List.listTooLong (items.size * x.toNat) = true) :
    Meets (Builtin.«list.__mul__» ⟨[.ref l, .int x u], []⟩) (fun _ R s => s.heap.get? l = some { cls := .type "list", dict := dd, data := .seq items n, slots := sl } ∧ R (.ok (.ret (Value.ref s.heap.objs.size))) { s with heap := s.heap.push { cls := Value.type "list", data := Data.seq (List.foldl (fun x1 x2 => x1 ++ x2) #[] (List.replicate (if items.isEmpty = true then 0 else x.toNat) items)) }, toks := s.toks }) :=
  .of_wp fun prog w A R s h => by
    obtain ⟨hp, g, d, tk, os⟩ := s
    obtain ⟨hl, h⟩ := h
    have hsz := PySem.AutoListH.joined_fits hc2
    wp_walk using wpAny_loadPart' hl
    refine wpAny_ite_false (decide_eq_false (Nat.not_lt.mpr hsz)) ?_
    wp_walk using wpAny_loadPart' hl
    exact ⟨_, rfl, h⟩
theorem int_rmul_listW (a : Int) (t : Tok) (l : Addr) (items : Array Value) (n : Nat) (dd : Option Addr) (sl : Array (Option Value)) :
    Meets (Builtin.«int.__rmul__» ⟨[.int a t, .ref l], []⟩) (fun _ R s => s.heap.get? l = some { cls := .type "list", dict := dd, data := .seq items n, slots := sl } ∧ R (.ok (.ret Value.notImplemented)) s) :=
  .of_wp fun prog w A R s h => by obtain ⟨hp, g, d, tk, os⟩ := s; obtain ⟨hl, h⟩ := h; wp_walk using wpAny_loadPart' hl; exact ⟨_, rfl, h⟩
end
section
variable {X : Cx}
def rRepLi (K : PySem.W.Frag) : R2 := fun x y H Q => ∃ l k xs, x = .ref l ∧ y = .int k ∧ SqL K H l xs ∧ -(2 ^ 62) ≤ k ∧ k < 2 ^ 62 ∧ xs.length * k.toNat ≤ sizeLine ∧ ∀ p, H p = none → Q (.ref p) (upd H p (.lst (List.replicate k.toNat xs).flatten))
theorem op_repLi : OpR X (binaryOp .Mult) (rRepLi X.K) := by
  intro pins s σ H x y v u Q I rx ry h
  obtain ⟨l, k, xs, rfl, rfl, hT, h1, h2, hz, q⟩ := h
  cases rx
  obtain ⟨t, rfl⟩ := ry
  obtain ⟨its, r, ⟨⟨cls, dd, data, sl⟩, n, ho, hc, hdd, hd⟩, hs⟩ := I.list hT
  simp only at hc hd
  subst hc hd
  have hle : its.length = xs.length := r.length.symm
  have hz2 : its.toArray.size * k.toNat ≤ 16777216 := by rw [List.size_toArray, hle]; rw [sizeLine_eq] at hz; exact hz
  refine PySem.wpAny_binaryOp_repeat_ref (T := "list") (U := "int") (by decide) ⟨_, ho, rfl⟩ (fun s' => typeIs_int s' k t) PySem.noFill_list_mul F.fills_int_mul F.slot_int_rmul PySem.repeat_list F.slot_int_index.lookup
      (call_meets F.slot_int_rmul (typeIs_int s k t) F.entry_int_rmul (F.args_int_rmul_2 _ _) (int_rmul_listW k t l its.toArray n dd sl) ⟨ho, rfl, ⟨_, ho, rfl⟩,
        call_meets F.slot_list_mul ⟨_, ho, rfl⟩ F.entry_list_mul (F.args_list_mul_2 _ _) (list_mulW l its.toArray n dd sl k t (by simp [Builtin.List.listFitsIndex]; omega) (by omega) (by simp [Builtin.List.listTooLong, sizeLine_eq]; simpa using hz2)) ⟨ho, ?_⟩⟩)
  have e : (List.foldl (fun x1 x2 => x1 ++ x2) #[] (List.replicate (if its.toArray.isEmpty = true then 0 else k.toNat) its.toArray)) = (List.replicate k.toNat its).flatten.toArray := by
    rw [PyProof.Rows.listMul_foldl]
    cases its with
    | nil => simp
    | cons a b => simp
  rw [e]
  refine ⟨.ref _, _, I.lnew (t' := s.toks) (r.rep k.toNat) ?_, rfl, q _ I.fresh⟩
  rw [PyProof.Rows.lm_len_rep_flat, Nat.mul_comm]; exact hz
end
theorem lineB_ok {n : Nat} (h : lineB n = true) : n ≤ sizeLine := by
  rw [sizeLine_eq]
  exact of_decide_eq_true h
theorem log2_1000 {n : Nat} (h : n < 2 ^ 1000) : n.log2 < 1000 := by
  by_cases h0 : n = 0
  · subst h0; decide
  · exact (Nat.log2_lt h0).2 h
theorem nat_lt_pow64 {i : Int} (h : i.natAbs < 2 ^ 64) : -(2 ^ 64) < i ∧ i < 2 ^ 64 := by omega
theorem divB_ok {i j : Int} (h : divB j = true) : CDivW i j := by
  unfold divB at h
  simp only [Bool.and_eq_true, decide_eq_true_eq] at h
  refine wide_div h.1 (b := 8000) ?_ (by decide) (by decide)
  have e : ((j.natAbs : Nat) : Int) = j := Int.natAbs_of_nonneg (Int.le_of_lt h.1)
  have e2 : ((j.natAbs : Nat) : Int) < ((2 ^ 8000 : Nat) : Int) := by
    rw [e, Int.natCast_pow]; exact h.2
  exact Int.ofNat_lt.mp e2
theorem cutV_eq (xs : List V) (lo hi : Option Int) : cutV xs lo hi = cutL xs lo hi := rfl
section
variable {t : Tp} {g : Gh} {H : Hp} {xd yd : List D} {v : V}
theorem Reps.nilD (r : Reps t g xd []) : xd = [] := List.eq_nil_of_length_eq_zero (by simpa using r.len)
theorem cat_left (r : Reps t g xd []) (h : RepW t H g (.tup yd) v) : Rep t g (.tup (xd ++ yd)) v := by
  rw [Reps.nilD r, List.nil_append]
  rcases h with h | ⟨l, _, _, e, _⟩
  · exact h
  · cases e
theorem cat_right (r : Reps t g yd []) (h : RepW t H g (.tup xd) v) : Rep t g (.tup (xd ++ yd)) v := by
  rw [Reps.nilD r, List.append_nil]
  rcases h with h | ⟨l, _, _, e, _⟩
  · exact h
  · cases e
theorem rep_same {xs : List V} {k : Int} (r : Reps t g xd xs) (h : RepW t H g (.tup xd) v) (e : xs = [] ∨ k = 1) : Rep t g (.tup (repL xd k.toNat)) v := by
  have z : repL xd k.toNat = xd := by
    rcases e with e | e
    · subst e
      rw [Reps.nilD r]; unfold repL; simp
    · subst e
      unfold repL; simp
  rw [z]
  rcases h with h | ⟨l, _, _, e, _⟩
  · exact h
  · cases e
end
section
variable {X : Cx} {t : Tp}
/-- two values by what they stand for -/
def rBin (t : Tp) (o : Operator) : R2 := fun x y H Q => ∃ S g a b d, Wld t S g H ∧ RepW t H g a x ∧ RepW t H g b y ∧ binD o a b = some d ∧ ∀ v H' g', Frm g H g' H' → Wld t S g' H' → Rep t g' d v → Q v H'
theorem size_foldl {α : Type} (a : Array α) : ∀ (k : Nat) (b : Array α), ((List.replicate k a).foldl (· ++ ·) b).size = b.size + a.size * k
  | 0, b => by simp
  | k + 1, b => by
    rw [List.replicate_succ, List.foldl_cons, size_foldl a k (b ++ a), Array.size_append, Nat.mul_succ]; omega
theorem op_repS : OpR X (binaryOp .Mult) (fun x y H Q => ∃ z k r, x = .str z ∧ y = .int k ∧ repS z k = some r ∧ Q (.str r) H) := by
  intro pins s σ H x y v u Q I rx ry h
  obtain ⟨z, k, r, rfl, rfl, e, q⟩ := h
  obtain ⟨t1, rfl⟩ := rx
  obtain ⟨t2, rfl⟩ := ry
  unfold repS at e
  split at e
  case isFalse => cases e
  rename_i hk
  have fin : ∀ tk, EP X pins σ Q (.str r tk) { s with toks := s.toks + 1 } := fun tk => ⟨.str r, H, I.tok _, ⟨tk, rfl⟩, q⟩
  have fin0 : ∀ tk, EP X pins σ Q (.str r tk) s := fun tk => ⟨.str r, H, I, ⟨tk, rfl⟩, q⟩
  have hr : (decide (k < -(2 ^ 63 : Int)) || decide (k ≥ 2 ^ 63)) = false := by rw [decide_eq_false (by omega), decide_eq_false (by omega)]; rfl
  by_cases h1 : k < 1
  · rw [if_pos h1] at e
    cases e
    refine PySem.P.mul_str hr (fun z => absurd h1 z) (fun z => absurd h1 z) ?_
    rw [if_pos h1]
    exact ⟨by decide, fin _⟩
  · rw [if_neg h1] at e
    by_cases h2 : k = 1 ∨ z.length = 0
    · rw [if_pos h2] at e
      cases e
      have h3 : (k == 1 || z.length == 0) = true := by
        rcases h2 with h2 | h2 <;> simp [h2]
      refine PySem.P.mul_str hr (fun _ z => by rw [h3] at z; cases z) (fun _ z => by rw [h3] at z; cases z) ?_
      rw [if_neg h1, if_pos h3]
      exact fin0 _
    · rw [if_neg h2] at e
      split at e
      case isFalse => cases e
      rename_i hl
      cases e
      have h3 : ¬ ((k == 1 || z.length == 0) = true) := fun h => h2 (by simpa using h)
      refine PySem.P.mul_str hr (fun _ _ => ?_) (fun _ _ => ?_) ?_
      · have : (z.length : Int) * k ≤ 16777216 := by
          have e1 : ((z.length * k.toNat : Nat) : Int) = (z.length : Int) * k := by rw [Int.natCast_mul, Int.toNat_of_nonneg (by omega)]
          omega
        intro hgt
        have h5 : (z.length : Int) ≤ (2 ^ 63 - 1) / k := by
          rw [Int.le_ediv_iff_mul_le (by omega)]
          omega
        omega
      · unfold Builtin.Str.tooLong
        rw [sizeLine_eq]
        exact decide_eq_false (by omega)
      · rw [if_neg h1, if_neg h3]
        refine ⟨?_, fin _⟩
        show (Array.size _) ≤ _
        rw [size_foldl, sizeLine_eq]
        have : z.cps.size = z.length := rfl
        rw [this]; simp; omega
theorem op_bin (hK : X.K = t.K) (o : Operator) : OpR X (binaryOp o) (rBin t o) := by
  intro pins s σ H x y v u Q I rx ry h
  obtain ⟨S, g, a, b, d, w, ha, hb, e, q⟩ := h
  have ret : ∀ {v' : V}, Rep t g d v' → Q v' H := fun r => q _ H g (Frm.refl g H) w r
  unfold binD at e
  split at e
  · obtain rfl := ha.int; obtain rfl := hb.int; cases e
    exact op_add pins s σ H _ _ v u Q I rx ry ⟨_, _, rfl, rfl, ret (by simp only [Rep])⟩
  · obtain rfl := ha.str; obtain rfl := hb.str
    split at e
    · rename_i hl
      cases e
      exact op_add_str pins s σ H _ _ v u Q I rx ry ⟨_, _, rfl, rfl, lineB_ok hl, ret (by simp only [Rep])⟩
    · cases e
  · split at e
    · rename_i hl
      cases e
      obtain ⟨p1, xs, rfl, h1, r1⟩ := ha.tup w
      obtain ⟨p2, ys, rfl, h2, r2⟩ := hb.tup w
      rw [← hK] at h1 h2
      refine op_catA pins s σ H _ _ v u Q I rx ry ⟨p1, p2, xs, ys, rfl, rfl, h1, h2, ?_, fun e => ?_, fun _ e => ?_, fun _ _ p hp => ?_⟩
      · have := lineB_ok hl
        rw [r1.len, r2.len] at this
        exact this
      · subst e; exact ret (cat_left r1 hb)
      · subst e; exact ret (cat_right r2 ha)
      · exact q _ _ _ (Frm.new w hp) (w.new hp) (Rep.newT w hp (r1.append r2))
    · cases e
  · split at e
    · rename_i hl
      cases e
      obtain ⟨p1, xs, rfl, h1, r1⟩ := ha.lst w
      obtain ⟨p2, ys, rfl, h2, r2⟩ := hb.lst w
      rw [← hK] at h1 h2
      refine op_catL pins s σ H _ _ v u Q I rx ry ⟨p1, p2, xs, ys, rfl, rfl, h1, h2, ?_, fun p hp => ?_⟩
      · have := lineB_ok hl
        rw [r1.len, r2.len] at this
        exact this
      · exact q _ _ _ (Frm.new w hp) (w.new hp) (Rep.newL w hp (r1.append r2))
    · cases e
  · obtain rfl := ha.int; obtain rfl := hb.int; cases e
    exact op_sub pins s σ H _ _ v u Q I rx ry ⟨_, _, rfl, rfl, ret (by simp only [Rep])⟩
  · obtain rfl := ha.int; obtain rfl := hb.int
    split at e
    · rename_i hm
      cases e
      unfold mulB at hm
      simp only [Bool.or_eq_true, Bool.and_eq_true, decide_eq_true_eq] at hm
      rcases hm with z | z
      · refine op_mul pins s σ H _ _ v u Q I rx ry ⟨_, _, rfl, rfl, ?_, ret (by simp only [Rep])⟩
        rcases z with z | z
        · exact .inl (nat_lt_pow64 z)
        · exact .inr (nat_lt_pow64 z)
      · refine op_mulW pins s σ H _ _ v u Q I rx ry ⟨_, _, rfl, rfl, ?_, ret (by simp only [Rep])⟩
        have a := log2_1000 z.1
        have b := log2_1000 z.2
        show Nat.log2 _ + Nat.log2 _ < 1000000
        omega
    · cases e
  · obtain rfl := hb.int
    split at e
    · rename_i hm
      cases e
      simp only [Bool.and_eq_true, decide_eq_true_eq] at hm
      obtain ⟨p1, xs, rfl, h1, r1⟩ := ha.tup w
      rw [← hK] at h1
      refine op_repA pins s σ H _ _ v u Q I rx ry ⟨p1, _, xs, rfl, rfl, h1, ?_, ?_, ?_, fun e => ?_, fun _ p hp => ?_⟩
      · have := hm.2; omega
      · have := hm.2; omega
      · have := lineB_ok hm.1
        rw [r1.len] at this
        exact this
      · exact ret (rep_same r1 ha e)
      · exact q _ _ _ (Frm.new w hp) (w.new hp) (Rep.newT w hp (r1.rep _))
    · cases e
  · obtain rfl := hb.int
    split at e
    · rename_i hm
      cases e
      simp only [Bool.and_eq_true, decide_eq_true_eq] at hm
      obtain ⟨p1, xs, rfl, h1, r1⟩ := ha.lst w
      rw [← hK] at h1
      refine op_repLi pins s σ H _ _ v u Q I rx ry ⟨p1, _, xs, rfl, rfl, h1, ?_, ?_, ?_, fun p hp => ?_⟩
      · have := hm.2; omega
      · have := hm.2; omega
      · have := lineB_ok hm.1
        rw [r1.len] at this
        exact this
      · exact q _ _ _ (Frm.new w hp) (w.new hp) (Rep.newL w hp (r1.rep _))
    · cases e
  · obtain rfl := ha.str; obtain rfl := hb.int
    obtain ⟨r, er, rfl⟩ := Option.map_eq_some_iff.mp e
    exact op_repS pins s σ H _ _ v u Q I rx ry ⟨_, _, r, rfl, rfl, er, ret (by simp only [Rep])⟩
  · obtain rfl := ha.int; obtain rfl := hb.int
    split at e
    · rename_i hm
      cases e
      exact op_fdivW pins s σ H _ _ v u Q I rx ry ⟨_, _, rfl, rfl, divB_ok hm, ret (by simp only [Rep])⟩
    · cases e
  · obtain rfl := ha.int; obtain rfl := hb.int
    split at e
    · rename_i hm
      cases e
      exact op_mod pins s σ H _ _ v u Q I rx ry ⟨_, _, rfl, rfl, of_decide_eq_true hm, ret (by simp only [Rep])⟩
    · cases e
  · obtain rfl := ha.int; obtain rfl := hb.int
    split at e
    · rename_i hm
      cases e
      unfold powB at hm
      simp only [Bool.and_eq_true, decide_eq_true_eq] at hm
      exact op_shl pins s σ H _ _ v u Q I rx ry ⟨_, _, rfl, rfl, ⟨hm.1.1, hm.1.2, hm.2⟩, ret (by simp only [Rep])⟩
    · cases e
  · obtain rfl := ha.int; obtain rfl := hb.int
    split at e
    · rename_i hm
      cases e
      exact op_shr pins s σ H _ _ v u Q I rx ry ⟨_, _, rfl, rfl, of_decide_eq_true hm, ret (by simp only [Rep])⟩
    · cases e
  · obtain rfl := ha.int; obtain rfl := hb.int
    split at e
    · rename_i hm
      cases e
      unfold powB at hm
      simp only [Bool.and_eq_true, decide_eq_true_eq] at hm
      exact op_pow pins s σ H _ _ v u Q I rx ry ⟨_, _, rfl, rfl, ⟨hm.1.1, hm.1.2, hm.2⟩, ret (by simp only [Rep])⟩
    · cases e
  · cases e
end
end Mp

set_option Elab.async false
set_option linter.all false
set_option maxRecDepth 100000
set_option autoImplicit false
set_option maxHeartbeats 1000000
namespace Mp
open PySem PySem.Spec L2
section
variable {t : Tp} {g : Gh} {H : Hp} {S : Store}
mutual
theorem Rep.dp (sub : ∀ a o, g.G a = some o → H a = some o) : ∀ (d : D) (v : V) (p : PyData), Rep t g d v → toP d = some p → Dp t.K H v p
  | .non, v, p, h, e => by simp only [Rep] at h; simp only [toP] at e; subst h; cases e; exact .non
  | .bl b, v, p, h, e => by simp only [Rep] at h; simp only [toP] at e; subst h; cases e; exact .bl b
  | .int b, v, p, h, e => by simp only [Rep] at h; simp only [toP] at e; subst h; cases e; exact .int b
  | .str b, v, p, h, e => by simp only [Rep] at h; simp only [toP] at e; subst h; cases e; exact .str b
  | .tup l, v, p, h, e => by
    simp only [Rep] at h; simp only [toP] at e
    obtain ⟨a, xs, rfl, q, r⟩ := h
    cases z : toP.toPs l with
    | none => rw [z] at e; cases e
    | some ps => rw [z] at e; cases e; exact .tup (sqT_mono sub q) (Reps.dp sub l xs ps r z)
  | .lst l, v, p, h, e => by
    simp only [Rep] at h; simp only [toP] at e
    obtain ⟨a, xs, rfl, q, r⟩ := h
    cases z : toP.toPs l with
    | none => rw [z] at e; cases e
    | some ps => rw [z] at e; cases e; exact .lst (sqL_mono sub q) (Reps.dp sub l xs ps r z)
  | .ins _ _ _, v, p, h, e => by simp only [toP] at e; cases e
  | .cel _, v, p, h, e => by simp only [toP] at e; cases e
  | .tpf _, v, p, h, e => by simp only [toP] at e; cases e
  | .dic, v, p, h, e => by simp only [toP] at e; cases e
theorem Reps.dp (sub : ∀ a o, g.G a = some o → H a = some o) : ∀ (ds : List D) (xs : List V) (ps : List PyData), Reps t g ds xs → toP.toPs ds = some ps → DpAll t.K H xs ps
  | [], xs, ps, h, e => by simp only [Reps] at h; simp only [toP.toPs] at e; subst h; cases e; exact .nil
  | d :: ds, xs, ps, h, e => by
    simp only [Reps] at h; simp only [toP.toPs] at e
    obtain ⟨x, r, rfl, h1, h2⟩ := h
    cases z : toP d with
    | none => rw [z] at e; cases e
    | some p =>
      cases z2 : toP.toPs ds with
      | none => rw [z, z2] at e; cases e
      | some qs => rw [z, z2] at e; cases e; exact .cons (Rep.dp sub d x p h1 z) (Reps.dp sub ds r qs h2 z2)
end
theorem RepW.dp (w : Wld t S g H) {d : D} {v : V} {p : PyData} (h : RepW t H g d v) (e : toP d = some p) : Dp t.K H v p := by
  rcases h with h | ⟨l, a, xs, rfl, rfl, h1, _, r⟩
  · exact Rep.dp w.sub d v p h e
  · simp only [toP] at e
    cases z : toP.toPs l with
    | none => rw [z] at e; cases e
    | some ps => rw [z] at e; cases e; exact .lst (.inl (.inl h1)) (Reps.dp w.sub l xs ps r z)
theorem RepW.flat {d : D} {v u : V} (h : RepW t H g d v) (e : flat d = some u) : v = u ∧ flatV v = true := by
  cases d <;> simp only [Mp.flat] at e <;> cases e
  · obtain rfl := h.non; exact ⟨rfl, rfl⟩
  · obtain rfl := h.bl; exact ⟨rfl, rfl⟩
  · obtain rfl := h.int; exact ⟨rfl, rfl⟩
  · obtain rfl := h.str; exact ⟨rfl, rfl⟩
theorem Reps.flats : ∀ {ds : List D} {xs us : List V}, Reps t g ds xs → flats ds = some us → xs = us ∧ xs.all flatV = true
  | [], xs, us, h, e => by simp only [Reps] at h; simp only [Mp.flats] at e; subst h; cases e; exact ⟨rfl, rfl⟩
  | d :: ds, xs, us, h, e => by
    simp only [Reps] at h; simp only [Mp.flats] at e
    obtain ⟨x, r, rfl, h1, h2⟩ := h
    cases z : Mp.flat d with
    | none => rw [z] at e; cases e
    | some p =>
      cases z2 : Mp.flats ds with
      | none => rw [z, z2] at e; cases e
      | some qs =>
        rw [z, z2] at e; cases e
        obtain ⟨a1, a2⟩ := RepW.flat (H := fun _ => none) (.inl h1) z
        obtain ⟨b1, b2⟩ := Reps.flats h2 z2
        exact ⟨by rw [a1, b1], by rw [List.all_cons, a2, b2]; rfl⟩
end
section
variable {X : Cx} {t : Tp}
def rCmpD (t : Tp) (o : CmpOp) : R2 := fun x y H Q => ∃ S g a b k, Wld t S g H ∧ RepW t H g a x ∧ RepW t H g b y ∧ cmpD o a b = some k ∧ Q (.bl k) H
theorem inD_ok {H : Hp} {g : Gh} {S : Store} {a b : D} {x y : V} {k : Bool} (w : Wld t S g H) (ha : RepW t H g a x) (hb : RepW t H g b y) (e : inD a b = some k) :
    (∃ p xs, y = .ref p ∧ (SqL t.K H p xs ∨ SqT t.K H p xs) ∧ flatV x = true ∧ xs.all flatV = true ∧ k = inV x xs) ∨ (∃ i j, x = .str i ∧ y = .str j ∧ k = !(Builtin.Str.occurrences j i 0 j.length 1).isEmpty) ∨
    (∃ d ds, Dp t.K H x d ∧ (Dp t.K H y (.list ds) ∨ Dp t.K H y (.tuple ds)) ∧ SeqAt.shaped d = true ∧ SeqAt.shaped (.list ds) = true ∧ k = ds.any fun z => PyData.eqv z d) := by
  have key : ∀ {l : List D}, inP a l = some k → ∃ d ds, toP.toPs l = some ds ∧ Dp t.K H x d ∧ SeqAt.shaped d = true ∧ SeqAt.shaped (.list ds) = true ∧ k = ds.any fun z => PyData.eqv z d := fun {l} e => by
    unfold inP at e
    split at e
    · rename_i p q e1 e2
      split at e
      · rename_i hs
        cases e
        simp only [Bool.and_eq_true] at hs
        exact ⟨p, q, e2, ha.dp w e1, hs.1, hs.2, rfl⟩
      · cases e
    · cases e
  unfold inD at e
  split at e
  · obtain ⟨p, xs, rfl, h1, r1⟩ := hb.lst w
    split at e
    · rename_i v vs e1 e2
      cases e
      obtain ⟨rfl, f1⟩ := ha.flat e1
      obtain ⟨rfl, f2⟩ := Reps.flats r1 e2
      exact .inl ⟨p, _, rfl, .inl h1, f1, f2, rfl⟩
    · obtain ⟨d, ds, e1, e2, e3, e4, e5⟩ := key e
      exact .inr (.inr ⟨d, ds, e2, .inl (hb.dp w (by simp only [toP, e1]; rfl)), e3, e4, e5⟩)
  · obtain ⟨p, xs, rfl, h1, r1⟩ := hb.tup w
    split at e
    · rename_i v vs e1 e2
      cases e
      obtain ⟨rfl, f1⟩ := ha.flat e1
      obtain ⟨rfl, f2⟩ := Reps.flats r1 e2
      exact .inl ⟨p, _, rfl, .inr h1, f1, f2, rfl⟩
    · obtain ⟨d, ds, e1, e2, e3, e4, e5⟩ := key e
      exact .inr (.inr ⟨d, ds, e2, .inr (hb.dp w (by simp only [toP, e1]; rfl)), e3, e4, e5⟩)
  · split at e
    · cases e
      obtain rfl := hb.str
      obtain rfl := ha.str
      exact .inr (.inl ⟨_, _, rfl, rfl, rfl⟩)
    · cases e
  · cases e
theorem op_inT (hK : X.K = t.K) (hu : X.A.units + 65 < cLine) : OpR X (compareOp .In) (fun x y H Q => ∃ d ds, Dp t.K H x d ∧ (Dp t.K H y (.list ds) ∨ Dp t.K H y (.tuple ds)) ∧ SeqAt.shaped d = true ∧ SeqAt.shaped (.list ds) = true ∧ Q (.bl (ds.any fun z => PyData.eqv z d)) H) := by
  intro pins s σ H x y v u Q I rx ry h
  obtain ⟨d, ds, hd, he, sd, se, q⟩ := h
  rw [← hK] at hd he
  obtain ⟨as, r1⟩ := Dp.reads I d x v hd rx
  have cl : PyData.canLayAll0 ds = true := SeqAt.canLay_of_shaped se
  rcases he with he | he
  · obtain ⟨bs, r2⟩ := Dp.reads I (.list ds) y u he ry
    exact SeqAt.in_list_reads r2 r1 cl (SeqAt.canLay_of_shaped sd) (PyProof.Rows.room_in_shaped sd hu) ⟨.bl _, H, I, rfl, q⟩
  · obtain ⟨bs, r2⟩ := Dp.reads I (.tuple ds) y u he ry
    exact SeqAt.in_tuple_reads r2 r1 cl (SeqAt.canLay_of_shaped sd) (PyProof.Rows.room_in_shaped sd hu) ⟨.bl _, H, I, rfl, q⟩
theorem op_notInT (hK : X.K = t.K) (hu : X.A.units + 65 < cLine) : OpR X (compareOp .NotIn) (fun x y H Q => ∃ d ds, Dp t.K H x d ∧ (Dp t.K H y (.list ds) ∨ Dp t.K H y (.tuple ds)) ∧ SeqAt.shaped d = true ∧ SeqAt.shaped (.list ds) = true ∧ Q (.bl (!ds.any fun z => PyData.eqv z d)) H) := by
  intro pins s σ H x y v u Q I rx ry h
  obtain ⟨d, ds, hd, he, sd, se, q⟩ := h
  rw [← hK] at hd he
  obtain ⟨as, r1⟩ := Dp.reads I d x v hd rx
  have cl : PyData.canLayAll0 ds = true := SeqAt.canLay_of_shaped se
  rcases he with he | he
  · obtain ⟨bs, r2⟩ := Dp.reads I (.list ds) y u he ry
    exact SeqAt.notIn_list_reads r2 r1 cl (SeqAt.canLay_of_shaped sd) (PyProof.Rows.room_in_shaped sd hu) ⟨.bl _, H, I, rfl, q⟩
  · obtain ⟨bs, r2⟩ := Dp.reads I (.tuple ds) y u he ry
    exact SeqAt.notIn_tuple_reads r2 r1 cl (SeqAt.canLay_of_shaped sd) (PyProof.Rows.room_in_shaped sd hu) ⟨.bl _, H, I, rfl, q⟩
theorem op_cmpD (hK : X.K = t.K) (hu : X.A.units + 65 < cLine) (o : CmpOp) : OpR X (compareOp o) (rCmpD t o) := by
  intro pins s σ H x y v u Q I rx ry h
  obtain ⟨S, g, a, b, k, w, ha, hb, e, q⟩ := h
  have eq_case : ∀ {k' : Bool}, eqD a b = some k' → ∃ p p', Dp X.K H x p ∧ Dp X.K H y p' ∧ SeqAt.shaped p = true ∧ SeqAt.shaped p' = true ∧ k' = PyData.eqv p p' := fun {k'} e => by
    unfold eqD at e
    split at e
    · rename_i p p' e1 e2
      split at e
      · rename_i hs
        cases e
        simp only [Bool.and_eq_true] at hs
        rw [hK]
        exact ⟨p, p', ha.dp w e1, hb.dp w e2, hs.1, hs.2, rfl⟩
      · cases e
    · cases e
  have in_case : ∀ {k' : Bool}, inD a b = some k' → _ := fun {k'} e => inD_ok w ha hb e
  unfold cmpD at e
  split at e
  · obtain ⟨p, p', h1, h2, h3, h4, rfl⟩ := eq_case e
    exact op_eqD (by omega) pins s σ H _ _ v u Q I rx ry ⟨p, p', h1, h2, h3, h4, q⟩
  · cases z : eqD _ _ with
    | none => rw [z] at e; cases e
    | some k' =>
      rw [z] at e; cases e
      obtain ⟨p, p', h1, h2, h3, h4, rfl⟩ := eq_case z
      exact op_neD (by omega) pins s σ H _ _ v u Q I rx ry ⟨p, p', h1, h2, h3, h4, q⟩
  · obtain rfl := ha.int; obtain rfl := hb.int; cases e
    exact op_lt pins s σ H _ _ v u Q I rx ry ⟨_, _, rfl, rfl, q⟩
  · obtain rfl := ha.int; obtain rfl := hb.int; cases e
    exact op_le pins s σ H _ _ v u Q I rx ry ⟨_, _, rfl, rfl, q⟩
  · obtain rfl := ha.int; obtain rfl := hb.int; cases e
    exact op_gt pins s σ H _ _ v u Q I rx ry ⟨_, _, rfl, rfl, q⟩
  · obtain rfl := ha.int; obtain rfl := hb.int; cases e
    exact op_ge pins s σ H _ _ v u Q I rx ry ⟨_, _, rfl, rfl, q⟩
  · rcases in_case e with ⟨p, xs, rfl, h1, h2, h3, rfl⟩ | ⟨i, j, rfl, rfl, rfl⟩ | ⟨d, ds, h1, h2, h3, h4, rfl⟩
    · rw [← hK] at h1
      exact op_in_seq pins s σ H _ _ v u Q I rx ry ⟨p, xs, rfl, h1, h2, h3, q⟩
    · exact op_in_str pins s σ H _ _ v u Q I rx ry ⟨i, j, rfl, rfl, q⟩
    · exact op_inT hK hu pins s σ H _ _ v u Q I rx ry ⟨d, ds, h1, h2, h3, h4, q⟩
  · cases z : inD _ _ with
    | none => rw [z] at e; cases e
    | some k' =>
      rw [z] at e; cases e
      rcases in_case z with ⟨p, xs, rfl, h1, h2, h3, rfl⟩ | ⟨i, j, rfl, rfl, rfl⟩ | ⟨d, ds, h1, h2, h3, h4, rfl⟩
      · rw [← hK] at h1
        exact op_notIn_seq pins s σ H _ _ v u Q I rx ry ⟨p, xs, rfl, h1, h2, h3, q⟩
      · exact op_notIn_str pins s σ H _ _ v u Q I rx ry ⟨i, j, rfl, rfl, q⟩
      · exact op_notInT hK hu pins s σ H _ _ v u Q I rx ry ⟨d, ds, h1, h2, h3, h4, q⟩
  · cases e
/-- truth -/
theorem tru_of {H : Hp} {g : Gh} {S : Store} {d : D} {x : V} {k : Bool} (w : Wld t S g H) (h : RepW t H g d x) (e : truD d = some k) : TruV t.K x H k := by
  unfold truD at e
  split at e
  · obtain rfl := h.non; cases e; rfl
  · obtain rfl := h.bl; cases e; rfl
  · obtain rfl := h.int; cases e; rfl
  · obtain rfl := h.str
    split at e
    · rename_i hl
      cases e; exact ⟨lineB_ok hl, rfl⟩
    · cases e
  · obtain ⟨p, xs, rfl, h1, r1⟩ := h.tup w
    cases e
    refine .inr (.inl ⟨xs, h1, ?_⟩)
    have := r1.len
    rename_i l
    cases l <;> cases xs <;> first | rfl | (simp at this)
  · obtain ⟨p, xs, rfl, h1, r1⟩ := h.lst w
    cases e
    refine .inl ⟨xs, h1, ?_⟩
    have := r1.len
    rename_i l
    cases l <;> cases xs <;> first | rfl | (simp at this)
  · cases e
/-- subscripts -/
theorem atI_rep {g : Gh} {l : List D} {xs : List V} {i : Int} {d : D} (r : Reps t g l xs) (e : atI l i = some d) : ∃ x, atI xs i = some x ∧ Rep t g d x := by
  unfold atI at e ⊢
  rw [← r.len]
  cases z : ixN l.length i with
  | none => rw [z] at e; cases e
  | some j =>
    rw [z] at e
    exact r.get e
def rIdxD (t : Tp) : R2 := fun x y H Q => ∃ S g a b d, Wld t S g H ∧ RepW t H g a x ∧ RepW t H g b y ∧ idxD S a b = some d ∧ ∀ v, Rep t g d v → Q v H
theorem ix_D (hK : X.K = t.K) : IxR X (rIdxD t) := by
  intro value slice pins s σ H x y v u Q I rx ry h hsub
  obtain ⟨S, g, a, b, d, w, ha, hb, e, q⟩ := h
  unfold idxD at e
  split at e
  · obtain rfl := hb.int
    obtain ⟨p, xs, rfl, h1, r1⟩ := ha.lst w
    obtain ⟨z, e1, rz⟩ := atI_rep r1 e
    rw [← hK] at h1
    exact ix_list value slice pins s σ H _ _ v u Q I rx ry ⟨p, xs, _, z, rfl, rfl, h1, e1, q z rz⟩ hsub
  · obtain rfl := hb.int
    obtain ⟨p, xs, rfl, h1, r1⟩ := ha.tup w
    obtain ⟨z, e1, rz⟩ := atI_rep r1 e
    rw [← hK] at h1
    exact ix_tup value slice pins s σ H _ _ v u Q I rx ry ⟨p, xs, _, z, rfl, rfl, h1, e1, q z rz⟩ hsub
  · obtain rfl := hb.int
    obtain rfl := ha.str
    split at e
    · rename_i z i hl
      cases e2 : atI z.cps.toList i with
      | none => rw [e2] at e; cases e
      | some c =>
        rw [e2] at e; cases e
        exact ix_str value slice pins s σ H _ _ v u Q I rx ry ⟨_, _, c, rfl, rfl, lineB_ok hl, e2, q _ (by simp only [Rep])⟩ hsub
    · cases e
  · obtain rfl := hb.int
    obtain ⟨p, rfl, hi⟩ := ha.cel
    split at e
    · rename_i l hs
      obtain ⟨p', e1, _, xs, h1, r1⟩ := w.cel _ _ hs
      rw [hi] at e1; cases e1
      obtain ⟨z, e2, rz⟩ := atI_rep r1 e
      exact ix_list value slice pins s σ H _ _ v u Q I rx ry ⟨p, xs, _, z, rfl, rfl, .inl (.inl h1), e2, q z rz⟩ hsub
    · cases e
  · cases e
/-- slices -/
theorem cutL_rep {g : Gh} {l : List D} {xs : List V} (r : Reps t g l xs) (lo hi : Option Int) : Reps t g (cutL l lo hi) (cutV xs lo hi) := by
  unfold cutL cutV
  rw [r.len]
  exact (r.drop _).take _
def rSlcD (t : Tp) : V → Option Int → Option Int → Hp → VK → Prop := fun x lo hi H Q => ∃ S g a d, Wld t S g H ∧ RepW t H g a x ∧ slcD S a lo hi = some d ∧ ∀ v H' g', Frm g H g' H' → Wld t S g' H' → Rep t g' d v → Q v H'
theorem cut_whole {α : Type} {xs : List α} {lo hi : Option Int} (h : HT.sIx xs.length 0 lo = 0 ∧ HT.sIx xs.length xs.length hi = xs.length) : cutL xs lo hi = xs := by
  unfold cutL
  rw [h.1, h.2]
  simp
theorem sl_D (hK : X.K = t.K) : SlR X (rSlcD t) := by
  intro pins s σ H x v vl vu lo hi sl Q I rx hs' pl pu h
  obtain ⟨S, g, a, d, w, ha, e, q⟩ := h
  unfold slcD at e
  split at e
  · cases e
    obtain ⟨p, xs, rfl, h1, r1⟩ := ha.lst w
    rw [← hK] at h1
    exact sl_list pins s σ H _ v vl vu _ _ sl Q I rx hs' pl pu ⟨p, xs, rfl, h1, fun p hp => q _ _ _ (Frm.new w hp) (w.new hp) (Rep.newL w hp (cutL_rep r1 _ _))⟩
  · cases e
    obtain ⟨p, xs, rfl, h1, r1⟩ := ha.tup w
    rw [← hK] at h1
    refine sl_tupA pins s σ H _ v vl vu _ _ sl Q I rx hs' pl pu ⟨p, xs, rfl, h1, fun hw => ?_, fun _ p hp => q _ _ _ (Frm.new w hp) (w.new hp) (Rep.newT w hp (cutL_rep r1 _ _))⟩
    refine q _ H g (Frm.refl g H) w ?_
    rw [← r1.len] at hw
    rw [cut_whole hw]
    rcases ha with ha | ⟨l, _, _, e, _⟩
    · exact ha
    · cases e
  · obtain ⟨p, rfl, hi'⟩ := ha.cel
    split at e
    · rename_i l hs
      cases e
      obtain ⟨p', e1, _, xs, h1, r1⟩ := w.cel _ _ hs
      rw [hi'] at e1; cases e1
      exact sl_list pins s σ H _ v vl vu _ _ sl Q I rx hs' pl pu ⟨p, xs, rfl, .inl (.inl h1), fun p hp => q _ _ _ (Frm.new w hp) (w.new hp) (Rep.newL w hp (cutL_rep r1 _ _))⟩
    · cases e
  · cases e
end
end Mp

set_option Elab.async false
set_option linter.all false
set_option maxRecDepth 100000
set_option autoImplicit false
set_option maxHeartbeats 1000000
namespace Mp
open PySem PySem.Spec L2
def RepsW (t : Tp) (H : Hp) (g : Gh) : List D → List V → Prop
  | [], [] => True
  | d :: ds, x :: xs => RepW t H g d x ∧ RepsW t H g ds xs
  | _, _ => False
section
variable {t : Tp} {g g' : Gh} {H H' : Hp} {S : Store}
theorem RepsW.frm (f : Frm g H g' H') : ∀ {ds : List D} {xs : List V}, RepsW t H g ds xs → RepsW t H' g' ds xs
  | [], [], _ => trivial
  | _ :: _, _ :: _, h => ⟨h.1.frm f, RepsW.frm f h.2⟩
  | [], _ :: _, h => h
  | _ :: _, [], h => h
theorem RepsW.one {d : D} {xs : List V} (h : RepsW t H g [d] xs) : ∃ x, xs = [x] ∧ RepW t H g d x := by
  match xs, h with
  | [x], h => exact ⟨x, rfl, h.1⟩
  | [], h => exact h.elim
  | _ :: _ :: _, h => exact h.2.elim
theorem Reps.weak : ∀ {ds : List D} {xs : List V}, Reps t g ds xs → RepsW t H g ds xs
  | [], _, h => by simp only [Reps] at h; subst h; trivial
  | _ :: _, _, h => by
    simp only [Reps] at h
    obtain ⟨x, r, rfl, h1, h2⟩ := h
    exact ⟨.inl h1, Reps.weak h2⟩
theorem boolsD_rep : ∀ {l : List D} {xs : List V} {bs : List Bool}, Reps t g l xs → boolsD l = some bs → xs = bs.map V.bl
  | [], xs, bs, h, e => by simp only [Reps] at h; simp only [boolsD] at e; subst h; cases e; rfl
  | d :: l, xs, bs, h, e => by
    simp only [Reps] at h
    obtain ⟨x, r, rfl, h1, h2⟩ := h
    cases d <;> simp only [boolsD] at e <;> try (cases e; done)
    rename_i b
    simp only [Rep] at h1
    cases z : boolsD l with
    | none => rw [z] at e; cases e
    | some cs => rw [z] at e; cases e; rw [h1, boolsD_rep h2 z]; rfl
theorem intsD_rep : ∀ {l : List D} {xs : List V} {bs : List Int}, Reps t g l xs → intsD l = some bs → xs = bs.map V.int
  | [], xs, bs, h, e => by simp only [Reps] at h; simp only [intsD] at e; subst h; cases e; rfl
  | d :: l, xs, bs, h, e => by
    simp only [Reps] at h
    obtain ⟨x, r, rfl, h1, h2⟩ := h
    cases d <;> simp only [intsD] at e <;> try (cases e; done)
    rename_i b
    simp only [Rep] at h1
    cases z : intsD l with
    | none => rw [z] at e; cases e
    | some cs => rw [z] at e; cases e; rw [h1, intsD_rep h2 z]; rfl
end
def biV : Bi → Value
  | .len => .builtin "len"
  | .all => .builtin "all"
  | .any => .builtin "any"
  | .sum => .builtin "sum"
  | .tuple => .type "tuple"
  | .list => .type "list"
  | .int => .type "int"
  | .abs => .builtin "abs"
section
variable {X : Cx} {t : Tp}
def rBi (t : Tp) (b : Bi) : List V → Hp → VK → Prop := fun xs H Q => ∃ S g ds d, Wld t S g H ∧ RepsW t H g ds xs ∧ biD S b ds = some d ∧ ∀ v H' g', Frm g H g' H' → Wld t S g' H' → Rep t g' d v → Q v H'
theorem call_bi (hK : X.K = t.K) (hc : X.calm = true) (b : Bi) : CallR X (biV b) (rBi t b) := by
  intro pins s σ H xs us Q I r h
  obtain ⟨S, g, ds, d, w, hr, e, q⟩ := h
  have ret : ∀ {v' : V}, Rep t g d v' → Q v' H := fun r => q _ H g (Frm.refl g H) w r
  unfold biD at e
  split at e
  · cases e
    obtain ⟨x, rfl, h1⟩ := hr.one
    obtain ⟨p, ys, rfl, h2, r2⟩ := h1.lst w
    rw [← hK] at h2
    exact call_len_seq pins s σ H _ us Q I r ⟨p, ys, rfl, .inl h2, ret (by simp only [Rep]; rw [r2.len])⟩
  · cases e
    obtain ⟨x, rfl, h1⟩ := hr.one
    obtain ⟨p, ys, rfl, h2, r2⟩ := h1.tup w
    rw [← hK] at h2
    exact call_len_seq pins s σ H _ us Q I r ⟨p, ys, rfl, .inr h2, ret (by simp only [Rep]; rw [r2.len])⟩
  · split at e
    · rename_i hl
      cases e
      obtain ⟨x, rfl, h1⟩ := hr.one
      obtain rfl := h1.str
      exact call_len_str pins s σ H _ us Q I r ⟨_, rfl, lineB_ok hl, ret (by simp only [Rep])⟩
    · cases e
  · split at e
    · rename_i l hs
      cases e
      obtain ⟨x, rfl, h1⟩ := hr.one
      obtain ⟨p, rfl, hi⟩ := h1.cel
      obtain ⟨p', e1, _, ys, h2, r2⟩ := w.cel _ _ hs
      rw [hi] at e1; cases e1
      exact call_len_seq pins s σ H _ us Q I r ⟨p, ys, rfl, .inl (.inl (.inl h2)), ret (by simp only [Rep]; rw [r2.len])⟩
    · cases e
  · obtain ⟨x, rfl, h1⟩ := hr.one
    obtain ⟨p, ys, rfl, h2, r2⟩ := h1.lst w
    cases z : boolsD ‹List D› with
    | none => rw [z] at e; cases e
    | some bs =>
      rw [z] at e; cases e
      rw [boolsD_rep r2 z, ← hK] at h2
      exact cr_all hc pins s σ H _ us Q I r ⟨p, bs, rfl, h2, ret (by simp only [Rep])⟩
  · obtain ⟨x, rfl, h1⟩ := hr.one
    obtain ⟨p, ys, rfl, h2, r2⟩ := h1.lst w
    cases z : boolsD ‹List D› with
    | none => rw [z] at e; cases e
    | some bs =>
      rw [z] at e; cases e
      rw [boolsD_rep r2 z, ← hK] at h2
      exact cr_any hc pins s σ H _ us Q I r ⟨p, bs, rfl, h2, ret (by simp only [Rep])⟩
  · obtain ⟨x, rfl, h1⟩ := hr.one
    obtain ⟨p, ys, rfl, h2, r2⟩ := h1.lst w
    cases z : intsD ‹List D› with
    | none => rw [z] at e; cases e
    | some bs =>
      rw [z] at e; cases e
      rw [intsD_rep r2 z, ← hK] at h2
      exact cr_sum hc pins s σ H _ us Q I r ⟨p, bs, rfl, h2, ret (by simp only [Rep])⟩
  · cases e
    obtain ⟨x, rfl, h1⟩ := hr.one
    obtain ⟨p, ys, rfl, h2, r2⟩ := h1.lst w
    rw [← hK] at h2
    exact call_tuple_of pins s σ H _ us Q I r ⟨p, ys, rfl, .inl ⟨h2, fun l hl => q _ _ _ (Frm.new w hl) (w.new hl) (Rep.newT w hl r2)⟩⟩
  · cases e
    obtain ⟨x, rfl, h1⟩ := hr.one
    obtain ⟨p, ys, rfl, h2, r2⟩ := h1.tup w
    rw [← hK] at h2
    refine call_tuple_of pins s σ H _ us Q I r ⟨p, ys, rfl, .inr ⟨h2, ret ?_⟩⟩
    rcases h1 with h1 | ⟨_, _, _, e, _⟩
    · exact h1
    · cases e
  · cases e
    obtain ⟨x, rfl, h1⟩ := hr.one
    obtain ⟨p, ys, rfl, h2, r2⟩ := h1.lst w
    rw [← hK] at h2
    exact call_list_of pins s σ H _ us Q I r ⟨p, ys, rfl, .inl h2, fun l hl => q _ _ _ (Frm.new w hl) (w.new hl) (Rep.newL w hl r2)⟩
  · cases e
    obtain ⟨x, rfl, h1⟩ := hr.one
    obtain ⟨p, ys, rfl, h2, r2⟩ := h1.tup w
    rw [← hK] at h2
    exact call_list_of pins s σ H _ us Q I r ⟨p, ys, rfl, .inr h2, fun l hl => q _ _ _ (Frm.new w hl) (w.new hl) (Rep.newL w hl r2)⟩
  · split at e
    · rename_i l hs
      cases e
      obtain ⟨x, rfl, h1⟩ := hr.one
      obtain ⟨p, rfl, hi⟩ := h1.cel
      obtain ⟨p', e1, _, ys, h2, r2⟩ := w.cel _ _ hs
      rw [hi] at e1; cases e1
      exact call_tuple_of pins s σ H _ us Q I r ⟨p, ys, rfl, .inl ⟨.inl (.inl h2), fun l hl => q _ _ _ (Frm.new w hl) (w.new hl) (Rep.newT w hl r2)⟩⟩
    · cases e
  · split at e
    · rename_i l hs
      cases e
      obtain ⟨x, rfl, h1⟩ := hr.one
      obtain ⟨p, rfl, hi⟩ := h1.cel
      obtain ⟨p', e1, _, ys, h2, r2⟩ := w.cel _ _ hs
      rw [hi] at e1; cases e1
      exact call_list_of pins s σ H _ us Q I r ⟨p, ys, rfl, .inl (.inl (.inl h2)), fun l hl => q _ _ _ (Frm.new w hl) (w.new hl) (Rep.newL w hl r2)⟩
    · cases e
  · cases e
    obtain ⟨x, rfl, h1⟩ := hr.one
    obtain rfl := h1.int
    exact call_int1 pins s σ H _ us Q I r (.inl ⟨_, rfl, ret (by simp only [Rep])⟩)
  · cases e
    obtain ⟨x, rfl, h1⟩ := hr.one
    obtain rfl := h1.bl
    exact call_int1 pins s σ H _ us Q I r (.inr ⟨_, rfl, ret (by simp only [Rep])⟩)
  · cases e
    obtain ⟨x, rfl, h1⟩ := hr.one
    obtain rfl := h1.int
    exact call_abs pins s σ H _ us Q I r ⟨_, rfl, ret (by simp only [Rep])⟩
  · cases e
end

/-! ### isinstance -/
/-- what the written part says of the classes -/
structure ClsOk (t : Tp) (C : Addr) : Prop where
  cls : Cls t.K C
  ha : PySem.W.findIn t.K (.ref C) "__class__" = some (some (.builtin "object.__class__"))
  hn : PySem.W.specialIn t.K (.builtin "object.__class__") "__get__" = some (some (.builtin "getset_descriptor.__get__"))
  tk : PySem.W.takesIn t.K (.builtin "object.__class__") = some true
  hm : PySem.W.mroIn t.K C (.type "object") = some true
  non : PySem.W.kitOne t.K (.type "NoneType") (.ref C) = some false
  bl : PySem.W.kitOne t.K (.type "bool") (.ref C) = some false
  int : PySem.W.kitOne t.K (.type "int") (.ref C) = some false
  str : PySem.W.kitOne t.K (.type "str") (.ref C) = some false
  lst : PySem.W.kitOne t.K (.type "list") (.ref C) = some false
  tup : PySem.W.kitOne t.K (.type "tuple") (.ref C) = some false
  oint : PySem.W.kitOne t.K (.ref C) (.type "int") = some false
  obl : PySem.W.kitOne t.K (.ref C) (.type "bool") = some false
  ostr : PySem.W.kitOne t.K (.ref C) (.type "str") = some false
  olst : PySem.W.kitOne t.K (.ref C) (.type "list") = some false
  otup : PySem.W.kitOne t.K (.ref C) (.type "tuple") = some false
  dic : PySem.W.kitOne t.K (.type "dict") (.ref C) = some false
structure TopOk (t : Tp) : Prop where
  cls : ∀ c C, t.ct c = some C → ClsOk t C
  oo : ∀ c c' C C', t.ct c = some C → t.ct c' = some C' → PySem.W.kitOne t.K (.ref C) (.ref C') = some (c == c')
/-- a type's value -/
def TyVal (t : Tp) : Ty → Value → Prop
  | .int, u => u = .type "int"
  | .bool, u => u = .type "bool"
  | .str, u => u = .type "str"
  | .list, u => u = .type "list"
  | .tuple, u => u = .type "tuple"
  | .own c, u => ∃ C, t.ct c = some C ∧ u = .ref C
section
variable {t : Tp} {g : Gh} {H : Hp} {S : Store}
theorem kl {K : PySem.W.Frag} {a b : String} (r : Bool) (h : kitB a b = some r := by decide +kernel) : PySem.W.kitOne K (.type a) (.type b) = some r := kit_ty h
theorem ty_of_sqL {K : PySem.W.Frag} {a : Addr} {xs : List V} (h : SqL K H a xs) : TyX K H (.ref a) (.type "list") := by
  rcases h with (h | ⟨o, h⟩) | ⟨o, its, n, h1, h2, _⟩
  · exact .base (.lst h)
  · exact .base (.frz h)
  · exact .kList h1 h2
theorem ty_of_sqT {K : PySem.W.Frag} {a : Addr} {xs : List V} (h : SqT K H a xs) : TyX K H (.ref a) (.type "tuple") := by
  rcases h with (h | ⟨o, h⟩) | ⟨o, its, n, h1, h2, _⟩
  · exact .base (.tup h)
  · exact .fTuple h
  · exact .kTuple h1 h2
/-- a value's type, and what isinstance says of it -/
theorem isi_of (T : TopOk t) (w : Wld t S g H) : ∀ (d : D) (x : V), RepW t H g d x → okI S d = true → (∀ n, d = .cel n → ∃ c, S[n]? = some c) →
    ∃ u, TyX t.K H x u ∧ ∀ y v, TyVal t y v → PySem.W.kitOne t.K u v = some (isD S d y)
  | .tpf _, x, _, ho, _ => by simp [okI] at ho
  | .dic, x, h, _, _ => by
    have h' : Rep t g .dic x := by
      rcases h with h | ⟨_, _, _, z, _⟩
      · exact h
      · cases z
    simp only [Rep] at h'
    obtain ⟨a, kvs, rfl, q⟩ := h'
    refine ⟨_, .base (.dK (w.sub _ _ q)), fun y v hv => ?_⟩
    cases y <;> simp only [TyVal] at hv
    · subst hv; exact kl false
    · subst hv; exact kl false
    · subst hv; exact kl false
    · subst hv; exact kl false
    · subst hv; exact kl false
    · obtain ⟨C, hC, rfl⟩ := hv; exact (T.cls _ _ hC).dic
  | .non, x, h, _, _ => by
    obtain rfl := h.non
    refine ⟨_, .base .non, fun y v hv => ?_⟩
    cases y <;> simp only [TyVal] at hv
    · subst hv; exact kl false
    · subst hv; exact kl false
    · subst hv; exact kl false
    · subst hv; exact kl false
    · subst hv; exact kl false
    · obtain ⟨C, hC, rfl⟩ := hv; exact (T.cls _ _ hC).non
  | .bl b, x, h, _, _ => by
    obtain rfl := h.bl
    refine ⟨_, .base (.bl _), fun y v hv => ?_⟩
    cases y <;> simp only [TyVal] at hv
    · subst hv; exact kl true
    · subst hv; exact kl true
    · subst hv; exact kl false
    · subst hv; exact kl false
    · subst hv; exact kl false
    · obtain ⟨C, hC, rfl⟩ := hv; exact (T.cls _ _ hC).bl
  | .int b, x, h, _, _ => by
    obtain rfl := h.int
    refine ⟨_, .base (.int _), fun y v hv => ?_⟩
    cases y <;> simp only [TyVal] at hv
    · subst hv; exact kl true
    · subst hv; exact kl false
    · subst hv; exact kl false
    · subst hv; exact kl false
    · subst hv; exact kl false
    · obtain ⟨C, hC, rfl⟩ := hv; exact (T.cls _ _ hC).int
  | .str b, x, h, _, _ => by
    obtain rfl := h.str
    refine ⟨_, .base (.str _), fun y v hv => ?_⟩
    cases y <;> simp only [TyVal] at hv
    · subst hv; exact kl false
    · subst hv; exact kl false
    · subst hv; exact kl true
    · subst hv; exact kl false
    · subst hv; exact kl false
    · obtain ⟨C, hC, rfl⟩ := hv; exact (T.cls _ _ hC).str
  | .lst l, x, h, _, _ => by
    obtain ⟨p, xs, rfl, h1, _⟩ := h.lst w
    refine ⟨_, ty_of_sqL h1, fun y v hv => ?_⟩
    cases y <;> simp only [TyVal] at hv
    · subst hv; exact kl false
    · subst hv; exact kl false
    · subst hv; exact kl false
    · subst hv; exact kl true
    · subst hv; exact kl false
    · obtain ⟨C, hC, rfl⟩ := hv; exact (T.cls _ _ hC).lst
  | .tup l, x, h, _, _ => by
    obtain ⟨p, xs, rfl, h1, _⟩ := h.tup w
    refine ⟨_, ty_of_sqT h1, fun y v hv => ?_⟩
    cases y <;> simp only [TyVal] at hv
    · subst hv; exact kl false
    · subst hv; exact kl false
    · subst hv; exact kl false
    · subst hv; exact kl false
    · subst hv; exact kl true
    · obtain ⟨C, hC, rfl⟩ := hv; exact (T.cls _ _ hC).tup
  | .ins c ns vs, x, h, _, _ => by
    have h := h.ins
    simp only [Rep] at h
    obtain ⟨a, C, dx, xs, rfl, hC, h1, _⟩ := h
    have K := T.cls _ _ hC
    refine ⟨_, .base (.ins (w.sub _ _ h1) K.cls K.ha K.hn K.tk K.hm), fun y v hv => ?_⟩
    cases y <;> simp only [TyVal] at hv
    · subst hv; exact K.oint
    · subst hv; exact K.obl
    · subst hv; exact K.ostr
    · subst hv; exact K.olst
    · subst hv; exact K.otup
    · obtain ⟨C', hC', rfl⟩ := hv; exact T.oo _ _ _ _ hC hC'
  | .cel n, x, h, hd, he => by
    obtain ⟨p, rfl, hi⟩ := h.cel
    obtain ⟨c, hs⟩ := he n rfl
    obtain ⟨p', e1, _, h2⟩ := w.cel _ _ hs
    rw [hi] at e1; cases e1
    cases c with
    | lst l =>
      obtain ⟨xs, h3, _⟩ := h2
      refine ⟨_, .base (.lst h3), fun y v hv => ?_⟩
      cases y <;> simp only [TyVal] at hv
      · subst hv; exact kl false
      · subst hv; exact kl false
      · subst hv; exact kl false
      · subst hv; rw [show isD S (.cel n) .list = true by simp [isD, hs]]; exact kl true
      · subst hv; exact kl false
      · obtain ⟨C, hC, rfl⟩ := hv; rw [show ∀ c, isD S (.cel n) (.own c) = false by intro c; simp [isD, hs]]; exact (T.cls _ _ hC).lst
    | ins c ns vs =>
      obtain ⟨C, dx, xs, hC, h3, _⟩ := h2
      have K := T.cls _ _ hC
      refine ⟨_, .base (.ins h3 K.cls K.ha K.hn K.tk K.hm), fun y v hv => ?_⟩
      cases y <;> simp only [TyVal] at hv
      · subst hv; exact K.oint
      · subst hv; exact K.obl
      · subst hv; exact K.ostr
      · subst hv; rw [show isD S (.cel n) .list = false by simp [isD, hs]]; exact K.olst
      · subst hv; exact K.otup
      · obtain ⟨C', hC', rfl⟩ := hv; rw [show ∀ c', isD S (.cel n) (.own c') = (c == c') by intro c; simp [isD, hs]]; exact T.oo _ _ _ _ hC hC'
    | dct l =>
      obtain ⟨kvs, h3, _⟩ := h2
      refine ⟨_, .base (.dK h3), fun y v hv => ?_⟩
      cases y <;> simp only [TyVal] at hv
      · subst hv; exact kl false
      · subst hv; exact kl false
      · subst hv; exact kl false
      · subst hv; rw [show isD S (.cel n) .list = false by simp [isD, hs]]; exact kl false
      · subst hv; exact kl false
      · obtain ⟨C, hC, rfl⟩ := hv; rw [show ∀ c, isD S (.cel n) (.own c) = false by intro c; simp [isD, hs]]; exact (T.cls _ _ hC).dic
    | gone => simp only [okI, hs] at hd; cases hd
end
end Mp

set_option Elab.async false
set_option linter.all false
set_option maxRecDepth 100000
set_option autoImplicit false
set_option maxHeartbeats 1000000
namespace Mp
open PySem PySem.Spec L2
theorem PE.imp {X : Cx} {e : Expr} {u u' : TE} (h : PE X e u) (k : ∀ σ H Q, u' σ H Q → u σ H Q) : PE X e u' := ⟨fun pins s σ H Q I hw => h.run pins s σ H Q I (k _ _ _ hw)⟩
theorem PT.imp {X : Cx} {e : Expr} {u u' : TT} (h : PT X e u) (k : ∀ σ H Q, u' σ H Q → u σ H Q) : PT X e u' := ⟨fun pins s σ H Q I hw => h.run pins s σ H Q I (k _ _ _ hw)⟩
theorem PW.imp {X : Cx} {e : Expr} {u u' : TT} (h : PW X e u) (k : ∀ σ H Q, u' σ H Q → u σ H Q) : PW X e u' := ⟨fun wh pins s σ H Q I hw => h.run wh pins s σ H Q I (k _ _ _ hw)⟩
theorem PA.imp {X : Cx} {e : List Expr} {u u' : TA} (h : PA X e u) (k : ∀ σ H Q, u' σ H Q → u σ H Q) : PA X e u' := ⟨fun ps pins s σ H Q I hw => h.run ps pins s σ H Q I (k _ _ _ hw)⟩
theorem PS.imp {X : Cx} {e : Stmt} {u u' : TS} (h : PS X e u) (k : ∀ D σ H, u' D σ H → u D σ H) : PS X e u' := ⟨fun pins s σ H D I hw => h.run pins s σ H D I (k _ _ _ hw)⟩
theorem PSs.imp {X : Cx} {e : List Stmt} {u u' : TS} (h : PSs X e u) (k : ∀ D σ H, u' D σ H → u D σ H) : PSs X e u' := ⟨fun pins s σ H D I hw => h.run pins s σ H D I (k _ _ _ hw)⟩
theorem PG.imp {X : Cx} {e : Expr} {u u' : TG} (h : PG X e u) (k : ∀ v σ H Q, u' v σ H Q → u v σ H Q) : PG X e u' := ⟨fun pins s σ H v w Q I r hw => h.run pins s σ H v w Q I r (k _ _ _ _ hw)⟩
theorem PO.imp {X : Cx} {e : Option Expr} {u u' : TO} (h : PO X e u) (k : ∀ σ H Q, u' σ H Q → u σ H Q) : PO X e u' := ⟨fun pins s σ H Q I hw => h.run pins s σ H Q I (k _ _ _ hw)⟩
theorem PI.imp {X : Cx} {tg e : Expr} {u u' : TI} (h : PI X tg e u) (k : ∀ σ H Q, u' σ H Q → u σ H Q) : PI X tg e u' := ⟨fun pins s σ H Q I hw => h.run pins s σ H Q I (k _ _ _ hw)⟩

abbrev Den (α : Type) := Ev → Store → Out α
/-- readings of expressions, of tests -/
abbrev rdE (t : Tp) (W : WX) (b : Bool) (f : Den D) : TE := rd t W (RepB t b) f
def RepT : Hp → Gh → Bool → Bool → Prop := fun _ _ a b => a = b
abbrev rdT (t : Tp) (W : WX) (f : Den Bool) : TT := rd t W RepT f
/-- lists of values -/
def RepsX (t : Tp) (H : Hp) (g : Gh) : List Bool → List D → List V → Prop
  | [], [], [] => True
  | b :: bs, d :: ds, x :: xs => RepB t b H g d x ∧ RepsX t H g bs ds xs
  | _, _, _ => False
abbrev rdA (t : Tp) (W : WX) (bs : List Bool) (f : Den (List D)) : TA := rd t W (fun H g ds xs => RepsX t H g bs ds xs) f
section
variable {t : Tp} {g g' : Gh} {H H' : Hp} {S : Store}
theorem RepsX.weak : ∀ {bs : List Bool} {ds : List D} {xs : List V}, RepsX t H g bs ds xs → RepsW t H g ds xs
  | [], [], [], _ => trivial
  | _ :: _, _ :: _, _ :: _, h => ⟨h.1.weak, RepsX.weak h.2⟩
  | [], _ :: _, _, h => h.elim
  | [], [], _ :: _, h => h.elim
  | _ :: _, [], _, h => h.elim
  | _ :: _, _ :: _, [], h => h.elim
theorem RepsX.strong : ∀ {bs : List Bool} {ds : List D} {xs : List V}, bs.all id = true → RepsX t H g bs ds xs → Reps t g ds xs
  | [], [], [], _, _ => .nil
  | b :: bs, _ :: _, _ :: _, e, h => by
    simp only [List.all_cons, Bool.and_eq_true, id] at e
    obtain ⟨rfl, e2⟩ := e
    exact .cons h.1.str (RepsX.strong e2 h.2)
  | [], _ :: _, _, _, h => h.elim
  | [], [], _ :: _, _, h => h.elim
  | _ :: _, [], _, _, h => h.elim
  | _ :: _, _ :: _, [], _, h => h.elim
theorem RepsX.frm (f : Frm g H g' H') : ∀ {bs : List Bool} {ds : List D} {xs : List V}, RepsX t H g bs ds xs → RepsX t H' g' bs ds xs
  | [], [], [], _ => trivial
  | _ :: _, _ :: _, _ :: _, h => ⟨h.1.frm f, RepsX.frm f h.2⟩
  | [], _ :: _, _, h => h.elim
  | [], [], _ :: _, h => h.elim
  | _ :: _, [], _, h => h.elim
  | _ :: _, _ :: _, [], h => h.elim
end
section
variable {X : Cx} {t : Tp} {W : WX} {a b c : Expr} {fa fb fc : Den D} {ba bb bc : Bool} {pos : Pos}
/-- one after another: the general step -/
theorem rd_bind {α β γ δ : Type} {R : Hp → Gh → α → β → Prop} {R1 : Hp → Gh → γ → δ → Prop} {f : Den γ} {k : γ → Ev → Store → Out α} {σ : St} {H : Hp} {Q : β → Hp → Prop}
    (h : rd t W R (fun ev S => (f ev S).bind fun x S1 => k x ev S1) σ H Q) :
    rd t W R1 f σ H (fun v H1 => ∃ ev S1 g1 x, Slots t ev g1 σ H1 ∧ Wld t S1 g1 H1 ∧ R1 H1 g1 x v ∧ Aft t (fun c d H' => W c d σ H') R g1 H1 (k x ev S1) Q) := by
  obtain ⟨ev, S, g, sl, w, h⟩ := h
  refine ⟨ev, S, g, sl, w, (Aft.bind h).mono fun v H1 ⟨x, S1, g1, f1, w1, r1, h1⟩ => ⟨ev, S1, g1, x, sl.frm f1, w1, r1, h1⟩⟩
theorem pe_bin (hK : X.K = t.K) (o : Operator) (ha : PE X a (rdE t W ba fa)) (hb : PE X b (rdE t W bb fb)) :
    PE X (.BinOp a o b pos) (rdE t W true fun ev S => (fa ev S).bind fun x S1 => (fb ev S1).bind fun y S2 => .of (binD o x y) S2) := by
  refine PE.imp (pe_op (op_bin hK o) ha hb) fun σ H Q h => ?_
  obtain ⟨ev, S, g, sl, w, h⟩ := rd_bind (R1 := RepB t ba) h
  refine ⟨ev, S, g, sl, w, h.mono fun v H1 ⟨ev, S1, g1, x, sl1, w1, r1, h1⟩ => ?_⟩
  refine ⟨ev, S1, g1, sl1, w1, (Aft.bind h1).mono fun u H2 ⟨y, S2, g2, f2, w2, r2, h2⟩ => ?_⟩
  obtain ⟨d, e, q⟩ := Aft.of h2
  exact ⟨S2, g2, x, y, d, w2, (r1.frm f2).weak, RepB.weak r2, e, fun v H' g' f w r => q v H' g' f w (.of r)⟩
theorem pe_cmpX (hK : X.K = t.K) (hu : X.A.units + 65 < cLine) (o : CmpOp) (hm : behindInMarks o b = false) (ha : PE X a (rdE t W ba fa)) (hb : PE X b (rdE t W bb fb)) :
    PE X (.Compare a [o] [b] pos) (rdE t W true fun ev S => (fa ev S).bind fun x S1 => (fb ev S1).bind fun y S2 => .of ((cmpD o x y).map .bl) S2) := by
  refine PE.imp (pe_cmpR (op_cmpD hK hu o) ha hb hm) fun σ H Q h => ?_
  obtain ⟨ev, S, g, sl, w, h⟩ := rd_bind (R1 := RepB t ba) h
  refine ⟨ev, S, g, sl, w, h.mono fun v H1 ⟨ev, S1, g1, x, sl1, w1, r1, h1⟩ => ?_⟩
  refine ⟨ev, S1, g1, sl1, w1, (Aft.bind h1).mono fun u H2 ⟨y, S2, g2, f2, w2, r2, h2⟩ => ?_⟩
  obtain ⟨d, e, q⟩ := Aft.of h2
  cases z : cmpD o x y with
  | none => rw [z] at e; cases e
  | some k =>
    rw [z] at e; cases e
    exact ⟨S2, g2, x, y, k, w2, (r1.frm f2).weak, RepB.weak r2, z, q _ _ _ (Frm.refl _ _) w2 (.of (by simp only [Rep]))⟩
theorem pt_cmpX (hK : X.K = t.K) (hu : X.A.units + 65 < cLine) (o : CmpOp) (hm : behindInMarks o b = false) (ha : PE X a (rdE t W ba fa)) (hb : PE X b (rdE t W bb fb)) :
    PT X (.Compare a [o] [b] pos) (rdT t W fun ev S => (fa ev S).bind fun x S1 => (fb ev S1).bind fun y S2 => .of (cmpD o x y) S2) := by
  refine PT.imp (pt_cmpR (op_cmpD hK hu o) ha hb hm) fun σ H Q h => ?_
  obtain ⟨ev, S, g, sl, w, h⟩ := rd_bind (R1 := RepB t ba) h
  refine ⟨ev, S, g, sl, w, h.mono fun v H1 ⟨ev, S1, g1, x, sl1, w1, r1, h1⟩ => ?_⟩
  refine ⟨ev, S1, g1, sl1, w1, (Aft.bind h1).mono fun u H2 ⟨y, S2, g2, f2, w2, r2, h2⟩ => ?_⟩
  obtain ⟨d, e, q⟩ := Aft.of h2
  exact ⟨S2, g2, x, y, d, w2, (r1.frm f2).weak, RepB.weak r2, e, d, rfl, q _ _ _ (Frm.refl _ _) w2 rfl⟩
/-- a < b < c -/
theorem chain_rd {o o' : CmpOp} {α : Type} {β : Type} {R : Hp → Gh → α → β → Prop} {k : Bool → Out α → Out α} {σ : St} {H : Hp} {Q : VK}
    (h : rdE t W true (fun ev S => (fa ev S).bind fun x S1 => (fb ev S1).bind fun y S2 => (Out.of (cmpD o x y) S2).bind fun k S3 => if k then (fc ev S3).bind fun z S4 => .of ((cmpD o' y z).map .bl) S4 else .ok (.bl false) S3) σ H Q) :
    tChain (rCmpD t o) (rCmpD t o') (rdE t W ba fa) (rdE t W bb fb) (rdE t W bc fc) σ H Q := by
  obtain ⟨ev, S, g, sl, w, h⟩ := rd_bind (R1 := RepB t ba) h
  refine ⟨ev, S, g, sl, w, h.mono fun v H1 ⟨ev, S1, g1, x, sl1, w1, r1, h1⟩ => ?_⟩
  refine ⟨ev, S1, g1, sl1, w1, (Aft.bind h1).mono fun u H2 ⟨y, S2, g2, f2, w2, r2, h2⟩ => ?_⟩
  have sl2 := sl1.frm f2
  cases z : cmpD o x y with
  | none => rw [z] at h2; exact h2.elim
  | some k =>
    rw [z, Out.of_some, Out.bind_ok] at h2
    refine ⟨S2, g2, x, y, k, w2, (r1.frm f2).weak, RepB.weak r2, z, k, rfl, ?_⟩
    cases k with
    | true =>
      rw [if_pos rfl] at h2 ⊢
      refine ⟨ev, S2, g2, sl2, w2, (Aft.bind h2).mono fun v3 H3 ⟨z3, S3, g3, f3, w3, r3, h3⟩ => ?_⟩
      obtain ⟨d, e, q⟩ := Aft.of h3
      cases z' : cmpD o' y z3 with
      | none => rw [z'] at e; cases e
      | some k' =>
        rw [z'] at e; cases e
        exact ⟨S3, g3, y, z3, k', w3, (RepB.frm f3 r2).weak, RepB.weak r3, z', q _ _ _ (Frm.refl _ _) w3 (.of (by simp only [Rep]))⟩
    | false =>
      rw [if_neg (by decide)] at h2 ⊢
      exact h2 _ _ _ (Frm.refl _ _) w2 (.of (by simp only [Rep]))
theorem pe_neg (ha : PE X a (rdE t W ba fa)) :
    PE X (.UnaryOp .USub a pos) (rdE t W true fun ev S => (fa ev S).bind fun x S1 => .of (negD x) S1) := by
  refine PE.imp (pe_un un_neg ha) fun σ H Q h => ?_
  obtain ⟨ev, S, g, sl, w, h⟩ := rd_bind (R1 := RepB t ba) h
  refine ⟨ev, S, g, sl, w, h.mono fun v H1 ⟨ev, S1, g1, x, sl1, w1, r1, h1⟩ => ?_⟩
  obtain ⟨d, e, q⟩ := Aft.of h1
  unfold negD at e
  split at e
  · cases e
    have := (RepB.weak r1).int
    exact ⟨_, this, q _ _ _ (Frm.refl _ _) w1 (.of (by simp only [Rep]))⟩
  · cases e
/-- truth of a value -/
theorem tru_rd {σ : St} {H : Hp} {Q : Bool → Hp → Prop} (h : rdT t W (fun ev S => (fa ev S).bind fun x S1 => .of (truD x) S1) σ H Q) : rdE t W ba fa σ H (fun x H1 => ∃ k, TruV t.K x H1 k ∧ Q k H1) := by
  obtain ⟨ev, S, g, sl, w, h⟩ := rd_bind (R1 := RepB t ba) h
  refine ⟨ev, S, g, sl, w, h.mono fun v H1 ⟨ev, S1, g1, x, sl1, w1, r1, h1⟩ => ?_⟩
  obtain ⟨k, e, q⟩ := Aft.of h1
  exact ⟨k, tru_of w1 (RepB.weak r1) e, q _ _ _ (Frm.refl _ _) w1 rfl⟩
theorem pt_truX (hK : X.K = t.K) (ha : PE X a (rdE t W ba fa)) (he : ∀ whole, isTrue a X.env whole = (do let v ← whole; standAt a.pos; holding [v] (truthy v))) :
    PT X a (rdT t W fun ev S => (fa ev S).bind fun x S1 => .of (truD x) S1) := by
  refine PT.imp (pt_truth ha he) fun σ H Q h => ?_
  have := tru_rd (ba := ba) h
  rw [← hK] at this
  exact this
theorem pe_notX (hK : X.K = t.K) (ha : PE X a (rdE t W ba fa)) :
    PE X (.UnaryOp .Not a pos) (rdE t W true fun ev S => (fa ev S).bind fun x S1 => .of ((truD x).map fun b => .bl (!b)) S1) := by
  refine PE.imp (pe_notT ha) fun σ H Q h => ?_
  obtain ⟨ev, S, g, sl, w, h⟩ := rd_bind (R1 := RepB t ba) h
  refine ⟨ev, S, g, sl, w, h.mono fun v H1 ⟨ev, S1, g1, x, sl1, w1, r1, h1⟩ => ?_⟩
  obtain ⟨d, e, q⟩ := Aft.of h1
  cases z : truD x with
  | none => rw [z] at e; cases e
  | some k =>
    rw [z] at e; cases e
    refine ⟨k, ?_, q _ _ _ (Frm.refl _ _) w1 (.of (by simp only [Rep]))⟩
    rw [hK]; exact tru_of w1 (RepB.weak r1) z
theorem pe_ifX {fc' : Den Bool} (hc : PT X c (rdT t W fc')) (ha : PE X a (rdE t W true fa)) (hb : PE X b (rdE t W true fb)) :
    PE X (.IfExp c a b pos) (rdE t W true fun ev S => (fc' ev S).bind fun k S2 => if k then fa ev S2 else fb ev S2) := by
  refine PE.imp (pe_ifExp hc ha hb) fun σ H Q h => ?_
  obtain ⟨ev, S, g, sl, w, h⟩ := rd_bind (R1 := RepT) h
  refine ⟨ev, S, g, sl, w, h.mono fun v H1 ⟨ev, S1, g1, k, sl1, w1, r1, h1⟩ => ?_⟩
  cases (show k = v from r1)
  cases v with
  | true => rw [if_pos rfl] at h1 ⊢; exact ⟨ev, S1, g1, sl1, w1, h1⟩
  | false => rw [if_neg (by decide)] at h1 ⊢; exact ⟨ev, S1, g1, sl1, w1, h1⟩
theorem pt_notX {fa' : Den Bool} (ha : PT X a (rdT t W fa')) : PT X (.UnaryOp .Not a pos) (rdT t W fun ev S => (fa' ev S).bind fun k S1 => .ok (!k) S1) := by
  refine PT.imp (pt_not ha) fun σ H Q h => ?_
  obtain ⟨ev, S, g, sl, w, h⟩ := rd_bind (R1 := RepT) h
  refine ⟨ev, S, g, sl, w, h.mono fun v H1 ⟨ev, S1, g1, k, sl1, w1, r1, h1⟩ => ?_⟩
  cases (show k = v from r1)
  exact h1 _ _ _ (Frm.refl _ _) w1 rfl
/-- displays -/
theorem pa_nilX : PA X [] (rdA t W [] fun _ S => .ok [] S) := by
  refine PA.imp pa_nil fun σ H Q h => ?_
  obtain ⟨ev, S, g, sl, w, h⟩ := h
  exact h [] H g (Frm.refl _ _) w trivial
theorem pa_consX {es : List Expr} {bs : List Bool} {fs : Den (List D)} (ha : PE X a (rdE t W ba fa)) (hr : PA X es (rdA t W bs fs)) (hs : starEach (a :: es) X.env = (false, eval a X.env) :: starEach es X.env) :
    PA X (a :: es) (rdA t W (ba :: bs) fun ev S => (fa ev S).bind fun x S1 => (fs ev S1).bind fun l S2 => .ok (x :: l) S2) := by
  refine PA.imp (pa_cons ha hr hs) fun σ H Q h => ?_
  obtain ⟨ev, S, g, sl, w, h⟩ := rd_bind (R1 := RepB t ba) h
  refine ⟨ev, S, g, sl, w, h.mono fun v H1 ⟨ev, S1, g1, x, sl1, w1, r1, h1⟩ => ?_⟩
  refine ⟨ev, S1, g1, sl1, w1, (Aft.bind (R1 := fun H g ds xs => RepsX t H g bs ds xs) h1).mono fun u H2 ⟨y, S2, g2, f2, w2, r2, h2⟩ => ?_⟩
  exact h2 _ _ _ (Frm.refl _ _) w2 ⟨RepB.frm f2 r1, r2⟩
theorem pe_tupX {es : List Expr} {bs : List Bool} {fs : Den (List D)} {k : Nat} (hs : bs.all id = true) (h : PA X es (rdA t W bs fs)) :
    PE X (.Tuple es k pos) (rdE t W true fun ev S => (fs ev S).bind fun l S1 => if lineB l.length then .ok (.tup l) S1 else .bad) := by
  refine PE.imp (pe_tup h) fun σ H Q h => ?_
  obtain ⟨ev, S, g, sl, w, h⟩ := rd_bind (R1 := fun H g ds xs => RepsX t H g bs ds xs) h
  refine ⟨ev, S, g, sl, w, h.mono fun v H1 ⟨ev, S1, g1, l, sl1, w1, r1, h1⟩ => ?_⟩
  have rs : Reps t g1 l v := RepsX.strong hs r1
  split at h1
  · rename_i hl
    refine ⟨by rw [← rs.len]; exact lineB_ok hl, fun p hp => ?_⟩
    exact h1 _ _ _ (Frm.new w1 hp) (w1.new hp) (.of (Rep.newT w1 hp rs))
  · exact h1.elim
/-- a new list, as such: at p, seen by nobody -/
def RepF (t : Tp) (H0 : Hp) : Hp → Gh → D → V → Prop := fun H g d v => ∃ l p xs, d = .lst l ∧ v = .ref p ∧ H0 p = none ∧ H p = some (.lst xs) ∧ g.G p = none ∧ (∀ n, g.io n ≠ some p) ∧ Reps t g l xs
/-- readings of what makes a new list -/
def rdF (t : Tp) (W : WX) (f : Den D) : TE := fun σ H Q => ∃ ev S g, Slots t ev g σ H ∧ Wld t S g H ∧ Aft t (fun c d H' => W c d σ H') (RepF t H) g H (f ev S) Q
theorem PE.ofF {e : Expr} {f : Den D} (h : PE X e (rdF t W f)) : PE X e (rdE t W true f) := by
  refine PE.imp h fun σ H Q h => ?_
  obtain ⟨ev, S, g, sl, w, h⟩ := h
  refine ⟨ev, S, g, sl, w, ?_⟩
  cases z : f ev S with
  | ok a S' =>
    rw [z] at h
    intro v H' g' f w' r
    obtain ⟨l, p, xs, rfl, rfl, h0, h1, h2, h3, rs⟩ := r
    refine h _ H' (g'.add p (.lst xs)) (f.freeze h0 h2) (w'.add h1 h2 h3) (.of ?_)
    simp only [Rep]
    exact ⟨p, xs, rfl, SqL.added, Reps.mono (Frm.add w' h1 h2).1 (fun _ _ q => q) _ _ rs⟩
  | exc e S' => rw [z] at h; exact h
  | bad => rw [z] at h; exact h
theorem pf_lstX {es : List Expr} {bs : List Bool} {fs : Den (List D)} (hs : bs.all id = true) (h : PA X es (rdA t W bs fs)) :
    PE X (.List es pos) (rdF t W fun ev S => (fs ev S).bind fun l S1 => if lineB l.length then .ok (.lst l) S1 else .bad) := by
  refine PE.imp (pe_lst h) fun σ H Q h => ?_
  obtain ⟨ev, S, g, sl, w, h⟩ := h
  refine ⟨ev, S, g, sl, w, (Aft.bind (R1 := fun H g ds xs => RepsX t H g bs ds xs) h).mono fun v H1 ⟨l, S1, g1, f1, w1, r1, h1⟩ => ?_⟩
  have rs : Reps t g1 l v := RepsX.strong hs r1
  split at h1
  · rename_i hl
    refine ⟨by rw [← rs.len]; exact lineB_ok hl, fun p hp => ?_⟩
    refine h1 _ _ g1 (Frm.fresh w1 hp) (w1.fresh hp) ⟨l, p, v, rfl, rfl, ?_, upd_same, w1.gfree hp, w1.ifree hp, rs⟩
    cases q : H p with
    | none => rfl
    | some o => exact absurd hp (f1.live p (by rw [q]; simp))
  · exact h1.elim
/-- a new shared object: its cell stands behind all others -/
def Gh.cell (g : Gh) (n : Nat) (p : Addr) : Gh := ⟨g.G, fun m => if m = n then some p else g.io m⟩
theorem Wld.noI {S : Store} {g : Gh} {H : Hp} (w : Wld t S g H) : g.io S.length = none := by
  cases q : g.io S.length with
  | none => rfl
  | some a => exact absurd (w.len _ _ q) (Nat.lt_irrefl _)
theorem Wld.leCell {S : Store} {g : Gh} {H : Hp} (w : Wld t S g H) (p : Addr) : Le g (g.cell S.length p) := ⟨fun _ _ e => e, fun n a e => by
  show (if n = S.length then some p else g.io n) = some a
  rw [if_neg (fun z => by rw [z, w.noI] at e; cases e)]; exact e⟩
theorem Wld.addCell {S : Store} {g : Gh} {H : Hp} (w : Wld t S g H) {p : Addr} {c : Cell} (hG : g.G p = none) (hi : ∀ n, g.io n ≠ some p) (ok : CellOk t g H p c) (hgc : goneC c = false := by rfl) : Wld t (S ++ [c]) (g.cell S.length p) H where
  sub := w.sub
  cel := fun n c' e => by
    have mo : ∀ {ds : List D} {xs : List V}, Reps t g ds xs → Reps t (g.cell S.length p) ds xs := fun r => Reps.mono (w.leCell p).1 (w.leCell p).2 _ _ r
    have mv : ∀ {a : Addr} {c : Cell}, CellOk t g H a c → CellOk t (g.cell S.length p) H a c := fun {a c} e3 => by
      cases c with
      | lst l => obtain ⟨xs, q, r⟩ := e3; exact ⟨xs, q, mo r⟩
      | ins c ns vs => obtain ⟨C, dx, xs, hc, q, el, r⟩ := e3; exact ⟨C, dx, xs, hc, q, el, mo r⟩
      | dct _ => obtain ⟨kvs, q, ek, r⟩ := e3; exact ⟨kvs, q, ek, mo r⟩
      | gone => exact e3
    by_cases hn : n < S.length
    · rw [List.getElem?_append_left hn] at e
      obtain ⟨a, e1, e2, e3⟩ := w.cel n c' e
      exact ⟨a, (w.leCell p).2 _ _ e1, e2, mv e3⟩
    · rw [List.getElem?_append_right (by omega)] at e
      have e0 : n - S.length = 0 := by
        cases q : n - S.length with
        | zero => rfl
        | succ m => rw [q] at e; simp at e
      rw [e0] at e
      simp at e
      subst e
      refine ⟨p, ?_, fun _ => hG, mv ok⟩
      show (if n = S.length then some p else g.io n) = some p
      rw [if_pos (by omega)]
  len := fun n a e => by
    have e' : (if n = S.length then some p else g.io n) = some a := e
    rw [List.length_append]
    split at e'
    · rename_i q; rw [q]; simp
    · have := w.len _ _ e'; simp; omega
  inj := fun n m a e1 e2 => by
    have e1' : (if n = S.length then some p else g.io n) = some a := e1
    have e2' : (if m = S.length then some p else g.io m) = some a := e2
    split at e1' <;> split at e2'
    · omega
    · cases e1'; exact absurd e2' (hi m)
    · cases e2'; exact absurd e1' (hi n)
    · exact w.inj n m a e1' e2'
  tab := fun q hq => by
    refine (w.tab q hq).mono (w.tab q hq).1 (fun n e => ?_) rfl fun _ _ e => e
    have e' : (if n = S.length then some p else g.io n) = some q.1 := e
    split at e'
    · cases e'
      obtain ⟨ps, e2⟩ := (w.tab q hq).at
      cases c with
      | lst l => obtain ⟨xs, z, _⟩ := ok; rw [e2] at z; cases z
      | ins c ns vs => obtain ⟨_, _, _, _, z, _⟩ := ok; rw [e2] at z; cases z
      | dct _ => obtain ⟨_, z, _⟩ := ok; rw [e2] at z; cases z
      | gone => cases hgc
    · exact (w.tab q hq).2.1 n e'
theorem Frm.addCell {S : Store} {g0 g : Gh} {H0 H : Hp} (f : Frm g0 H0 g H) (w : Wld t S g H) {p : Addr} (h0 : H0 p = none) : Frm g0 H0 (g.cell S.length p) H where
  leG := f.leG
  leI := fun n a e => (w.leCell p).2 _ _ (f.leI n a e)
  keep := f.keep
  newG := f.newG
  newI := fun n a e => by
    have e' : (if n = S.length then some p else g.io n) = some a := e
    split at e'
    · cases e'; exact .inr h0
    · exact f.newI n a e'
  live := f.live
def celF (f : Den D) : Den D := fun ev S => (f ev S).bind fun x S1 => match x with
  | .lst l => .ok (.cel S1.length) (S1 ++ [.lst l])
  | _ => .bad
/-- a new list that is shared -/
theorem PE.celF {e : Expr} {f : Den D} (h : PE X e (rdF t W f)) : PE X e (rdE t W true (Mp.celF f)) := by
  refine PE.imp h fun σ H Q h => ?_
  obtain ⟨ev, S, g, sl, w, h⟩ := h
  refine ⟨ev, S, g, sl, w, ?_⟩
  unfold Mp.celF at h
  cases z : f ev S with
  | ok a S' =>
    rw [z] at h
    intro v H' g' f w' r
    obtain ⟨l, p, xs, rfl, rfl, h0, h1, h2, h3, rs⟩ := r
    refine h (.ref p) H' (g'.cell S'.length p) (f.addCell w' h0) (w'.addCell h2 h3 ⟨xs, h1, rs⟩) (.of ?_)
    simp only [Rep]
    exact ⟨p, rfl, if_pos rfl⟩
  | exc e S' => rw [z] at h; exact h
  | bad => rw [z] at h; exact h
end
end Mp

set_option Elab.async false
set_option linter.all false
set_option maxRecDepth 100000
set_option autoImplicit false
set_option maxHeartbeats 1000000
namespace Mp
open PySem PySem.Spec L2
/-- truth of what f gives -/
def truF (f : Den D) : Den Bool := fun ev S => (f ev S).bind fun x S1 => .of (truD x) S1
section
variable {X : Cx} {t : Tp} {W : WX} {a b c : Expr} {fa fb fc : Den D} {ba bb bc : Bool} {pos : Pos}
/-- what always gives a bool -/
def Bl (f : Den D) : Prop := ∀ ev S d S', f ev S = .ok d S' → ∃ k, d = .bl k
theorem bl_rd {f : Den D} (hb : Bl f) {σ : St} {H : Hp} {Q : Bool → Hp → Prop} (h : rdT t W (truF f) σ H Q) : rdE t W true f σ H (fun x H1 => ∃ k, x = .bl k ∧ Q k H1) := by
  obtain ⟨ev, S, g, sl, w, h⟩ := h
  refine ⟨ev, S, g, sl, w, ?_⟩
  unfold truF at h
  cases z : f ev S with
  | ok d S' =>
    obtain ⟨k, rfl⟩ := hb _ _ _ _ z
    rw [z] at h
    intro v H' g' fr w' r
    have e : v = .bl k := by simpa only [Rep] using r.str
    exact ⟨k, e, h _ _ _ fr w' rfl⟩
  | exc e S' => rw [z] at h; exact h
  | bad => rw [z] at h; exact h
def chainF (o o' : CmpOp) (fa fb fc : Den D) : Den D := fun ev S => (fa ev S).bind fun x S1 => (fb ev S1).bind fun y S2 => (Out.of (cmpD o x y) S2).bind fun k S3 => if k then (fc ev S3).bind fun z S4 => .of ((cmpD o' y z).map .bl) S4 else .ok (.bl false) S3
theorem Out.bind_eq_ok {α β : Type} {o : Out α} {f : α → Store → Out β} {b : β} {S : Store} (h : o.bind f = .ok b S) : ∃ a S1, o = .ok a S1 ∧ f a S1 = .ok b S := by
  cases o with
  | ok a S1 => exact ⟨a, S1, rfl, h⟩
  | exc e S1 => cases h
  | bad => cases h
theorem Out.of_eq_ok {α : Type} {o : Option α} {S S' : Store} {a : α} (h : Out.of o S = .ok a S') : o = some a ∧ S = S' := by
  cases o with
  | none => cases h
  | some b => cases h; exact ⟨rfl, rfl⟩
theorem bl_chain {o o' : CmpOp} : Bl (chainF o o' fa fb fc) := fun ev S d S' h => by
  unfold chainF at h
  obtain ⟨x, S1, _, h⟩ := Out.bind_eq_ok h
  obtain ⟨y, S2, _, h⟩ := Out.bind_eq_ok h
  obtain ⟨k, S3, _, h⟩ := Out.bind_eq_ok h
  split at h
  · obtain ⟨z, S4, _, h⟩ := Out.bind_eq_ok h
    obtain ⟨h, _⟩ := Out.of_eq_ok h
    cases q : cmpD o' y z with
    | none => rw [q] at h; cases h
    | some k => rw [q] at h; cases h; exact ⟨k, rfl⟩
  · cases h; exact ⟨false, rfl⟩
theorem pe_chainX (hK : X.K = t.K) (hu : X.A.units + 65 < cLine) {o o' : CmpOp} (hm : lastMarks [o, o'] [b, c] = false) (ha : PE X a (rdE t W ba fa)) (hb : PE X b (rdE t W bb fb)) (hc : PE X c (rdE t W bc fc)) :
    PE X (.Compare a [o, o'] [b, c] pos) (rdE t W true (chainF o o' fa fb fc)) :=
  PE.imp (pe_chain (op_cmpD hK hu o) (op_cmpD hK hu o') ha hb hc hm) fun σ H Q h => chain_rd (α := Unit) (β := Unit) (R := fun _ _ _ _ => True) (k := fun _ o => o) h
theorem pt_chainX (hK : X.K = t.K) (hu : X.A.units + 65 < cLine) {o o' : CmpOp} (hm : lastMarks [o, o'] [b, c] = false) (ha : PE X a (rdE t W ba fa)) (hb : PE X b (rdE t W bb fb)) (hc : PE X c (rdE t W bc fc)) :
    PT X (.Compare a [o, o'] [b, c] pos) (rdT t W (truF (chainF o o' fa fb fc))) :=
  PT.imp (pt_chain (op_cmpD hK hu o) (op_cmpD hK hu o') ha hb hc hm) fun σ H Q h => chain_rd (α := Unit) (β := Unit) (R := fun _ _ _ _ => True) (k := fun _ o => o) (bl_rd bl_chain h)
/-- is None -/
def isNF (n : Bool) (fa : Den D) : Den D := fun ev S => (fa ev S).bind fun x S1 => .ok (.bl (if n then !isNonD x else isNonD x)) S1
theorem non_iff {g : Gh} {H : Hp} {d : D} {x : V} (r : RepW t H g d x) : decide (x = .non) = isNonD d := by
  cases d with
  | non => rw [r.non]; rfl
  | bl b => rw [r.bl]; rfl
  | int b => rw [r.int]; rfl
  | str b => rw [r.str]; rfl
  | tup l =>
    rcases r with r | ⟨_, _, _, e, _⟩
    · simp only [Rep] at r; obtain ⟨a, xs, rfl, _⟩ := r; rfl
    · cases e
  | lst l =>
    rcases r with r | ⟨_, _, _, e, rfl, _⟩
    · simp only [Rep] at r; obtain ⟨a, xs, rfl, _⟩ := r; rfl
    · rfl
  | ins c ns vs => have r := r.ins; simp only [Rep] at r; obtain ⟨a, _, _, _, rfl, _⟩ := r; rfl
  | cel n => obtain ⟨a, rfl, _⟩ := r.cel; rfl
  | tpf l =>
    rcases r with r | ⟨_, _, _, e, _⟩
    · simp only [Rep] at r; obtain ⟨a, xs, o, rfl, _⟩ := r; rfl
    · cases e
  | dic =>
    rcases r with r | ⟨_, _, _, e, _⟩
    · simp only [Rep] at r; obtain ⟨a, kvs, rfl, _⟩ := r; rfl
    · cases e
theorem pe_isNX {k : Nat} {pos' : Pos} (ha : PE X a (rdE t W ba fa)) : PE X (.Compare a [.Is] [.Constant .none k pos'] pos) (rdE t W true (isNF false fa)) := by
  refine PE.imp (pe_cmp (pc_isN ha)) fun σ H Q h => ?_
  obtain ⟨ev, S, g, sl, w, h⟩ := rd_bind (R1 := RepB t ba) h
  refine ⟨ev, S, g, sl, w, h.mono fun v H1 ⟨ev, S1, g1, x, sl1, w1, r1, h1⟩ => ?_⟩
  rw [non_iff (RepB.weak r1)]
  exact h1 (.bl (isNonD x)) H1 g1 (Frm.refl _ _) w1 (.of (by simp only [Rep]; rfl))
theorem pe_isNNX {k : Nat} {pos' : Pos} (ha : PE X a (rdE t W ba fa)) : PE X (.Compare a [.IsNot] [.Constant .none k pos'] pos) (rdE t W true (isNF true fa)) := by
  refine PE.imp (pe_cmp (pc_notN ha)) fun σ H Q h => ?_
  obtain ⟨ev, S, g, sl, w, h⟩ := rd_bind (R1 := RepB t ba) h
  refine ⟨ev, S, g, sl, w, h.mono fun v H1 ⟨ev, S1, g1, x, sl1, w1, r1, h1⟩ => ?_⟩
  rw [non_iff (RepB.weak r1)]
  exact h1 (.bl (!isNonD x)) H1 g1 (Frm.refl _ _) w1 (.of (by simp only [Rep]; rfl))
theorem bl_isN {n : Bool} : Bl (isNF n fa) := fun ev S d S' h => by
  unfold isNF at h
  obtain ⟨x, S1, _, h⟩ := Out.bind_eq_ok h
  cases h; exact ⟨_, rfl⟩
theorem pt_isNX {k : Nat} {pos' : Pos} (ha : PE X a (rdE t W ba fa)) : PT X (.Compare a [.Is] [.Constant .none k pos'] pos) (rdT t W (truF (isNF false fa))) := by
  refine PT.imp (pt_cmp (pc_isN ha)) fun σ H Q h => ?_
  have h := bl_rd bl_isN h
  obtain ⟨ev, S, g, sl, w, h⟩ := rd_bind (R1 := RepB t ba) h
  refine ⟨ev, S, g, sl, w, h.mono fun v H1 ⟨ev, S1, g1, x, sl1, w1, r1, h1⟩ => ?_⟩
  rw [non_iff (RepB.weak r1)]
  exact h1 (.bl (isNonD x)) H1 g1 (Frm.refl _ _) w1 (.of (by simp only [Rep]; rfl))
theorem pt_isNNX {k : Nat} {pos' : Pos} (ha : PE X a (rdE t W ba fa)) : PT X (.Compare a [.IsNot] [.Constant .none k pos'] pos) (rdT t W (truF (isNF true fa))) := by
  refine PT.imp (pt_cmp (pc_notN ha)) fun σ H Q h => ?_
  have h := bl_rd bl_isN h
  obtain ⟨ev, S, g, sl, w, h⟩ := rd_bind (R1 := RepB t ba) h
  refine ⟨ev, S, g, sl, w, h.mono fun v H1 ⟨ev, S1, g1, x, sl1, w1, r1, h1⟩ => ?_⟩
  rw [non_iff (RepB.weak r1)]
  exact h1 (.bl (!isNonD x)) H1 g1 (Frm.refl _ _) w1 (.of (by simp only [Rep]; rfl))
/-- and, or: values -/
def andF (fa fr : Den D) : Den D := fun ev S => (fa ev S).bind fun x S1 => (Out.of (truD x) S1).bind fun k S2 => if k then fr ev S2 else .ok x S2
def orF (fa fr : Den D) : Den D := fun ev S => (fa ev S).bind fun x S1 => (Out.of (truD x) S1).bind fun k S2 => if k then .ok x S2 else fr ev S2
theorem pe_andX {rest : List Expr} {fr : Den D} (hK : X.K = t.K) (ha : PE X a (rdE t W true fa)) (hb : PE X (.BoolOp .And (b :: rest) pos) (rdE t W true fr)) : PE X (.BoolOp .And (a :: b :: rest) pos) (rdE t W true (andF fa fr)) := by
  refine PE.imp (pe_andT ha hb) fun σ H Q h => ?_
  obtain ⟨ev, S, g, sl, w, h⟩ := rd_bind (R1 := RepB t true) h
  refine ⟨ev, S, g, sl, w, h.mono fun v H1 ⟨ev, S1, g1, x, sl1, w1, r1, h1⟩ => ?_⟩
  cases z : truD x with
  | none => rw [z] at h1; exact h1.elim
  | some k =>
    rw [z, Out.of_some, Out.bind_ok] at h1
    refine ⟨k, by rw [hK]; exact tru_of w1 (RepB.weak r1) z, ?_⟩
    cases k with
    | true => rw [if_pos rfl] at h1 ⊢; exact ⟨ev, S1, g1, sl1, w1, h1⟩
    | false => rw [if_neg (by decide)] at h1 ⊢; exact h1 _ _ _ (Frm.refl _ _) w1 r1
theorem pe_orX {rest : List Expr} {fr : Den D} (hK : X.K = t.K) (ha : PE X a (rdE t W true fa)) (hb : PE X (.BoolOp .Or (b :: rest) pos) (rdE t W true fr)) : PE X (.BoolOp .Or (a :: b :: rest) pos) (rdE t W true (orF fa fr)) := by
  refine PE.imp (pe_orT ha hb) fun σ H Q h => ?_
  obtain ⟨ev, S, g, sl, w, h⟩ := rd_bind (R1 := RepB t true) h
  refine ⟨ev, S, g, sl, w, h.mono fun v H1 ⟨ev, S1, g1, x, sl1, w1, r1, h1⟩ => ?_⟩
  cases z : truD x with
  | none => rw [z] at h1; exact h1.elim
  | some k =>
    rw [z, Out.of_some, Out.bind_ok] at h1
    refine ⟨k, by rw [hK]; exact tru_of w1 (RepB.weak r1) z, ?_⟩
    cases k with
    | true => rw [if_pos rfl] at h1 ⊢; exact h1 _ _ _ (Frm.refl _ _) w1 r1
    | false => rw [if_neg (by decide)] at h1 ⊢; exact ⟨ev, S1, g1, sl1, w1, h1⟩
/-- .. as tests -/
def andT (fa fr : Den Bool) : Den Bool := fun ev S => (fa ev S).bind fun k S1 => if k then fr ev S1 else .ok false S1
def orT (fa fr : Den Bool) : Den Bool := fun ev S => (fa ev S).bind fun k S1 => if k then .ok true S1 else fr ev S1
theorem pw_andX {rest : List Expr} {fa' fr : Den Bool} (ha : PT X a (rdT t W fa')) (hb : PW X (.BoolOp .And (b :: rest) pos) (rdT t W fr)) : PW X (.BoolOp .And (a :: b :: rest) pos) (rdT t W (andT fa' fr)) := by
  refine PW.imp (pw_and ha hb) fun σ H Q h => ?_
  obtain ⟨ev, S, g, sl, w, h⟩ := rd_bind (R1 := RepT) h
  refine ⟨ev, S, g, sl, w, h.mono fun v H1 ⟨ev, S1, g1, k, sl1, w1, r1, h1⟩ => ?_⟩
  cases (show k = v from r1)
  cases v with
  | true => rw [if_pos rfl] at h1 ⊢; exact ⟨ev, S1, g1, sl1, w1, h1⟩
  | false => rw [if_neg (by decide)] at h1 ⊢; exact h1 _ _ _ (Frm.refl _ _) w1 rfl
theorem pw_orX {rest : List Expr} {fa' fr : Den Bool} (ha : PT X a (rdT t W fa')) (hb : PW X (.BoolOp .Or (b :: rest) pos) (rdT t W fr)) : PW X (.BoolOp .Or (a :: b :: rest) pos) (rdT t W (orT fa' fr)) := by
  refine PW.imp (pw_or ha hb) fun σ H Q h => ?_
  obtain ⟨ev, S, g, sl, w, h⟩ := rd_bind (R1 := RepT) h
  refine ⟨ev, S, g, sl, w, h.mono fun v H1 ⟨ev, S1, g1, k, sl1, w1, r1, h1⟩ => ?_⟩
  cases (show k = v from r1)
  cases v with
  | true => rw [if_pos rfl] at h1 ⊢; exact h1 _ _ _ (Frm.refl _ _) w1 rfl
  | false => rw [if_neg (by decide)] at h1 ⊢; exact ⟨ev, S1, g1, sl1, w1, h1⟩
/-- the truth of and, or is that of their parts -/
theorem truF_and (fa fr : Den D) : truF (andF fa fr) = andT (truF fa) (truF fr) := by
  funext ev S
  unfold truF andF andT
  dsimp only
  generalize fa ev S = o
  cases o with
  | ok x S1 =>
    simp only [Out.bind_ok]
    cases z : truD x with
    | none => rfl
    | some k =>
      simp only [Out.of_some, Out.bind_ok]
      cases k with
      | true => rfl
      | false => simp [z]
  | exc e S1 => rfl
  | bad => rfl
theorem truF_or (fa fr : Den D) : truF (orF fa fr) = orT (truF fa) (truF fr) := by
  funext ev S
  unfold truF orF orT
  dsimp only
  generalize fa ev S = o
  cases o with
  | ok x S1 =>
    simp only [Out.bind_ok]
    cases z : truD x with
    | none => rfl
    | some k =>
      simp only [Out.of_some, Out.bind_ok]
      cases k with
      | true => simp [z]
      | false => rfl
  | exc e S1 => rfl
  | bad => rfl
def notF (fa : Den D) : Den D := fun ev S => (fa ev S).bind fun x S1 => .of ((truD x).map fun b => .bl (!b)) S1
theorem truF_not (fa : Den D) : truF (notF fa) = fun ev S => (truF fa ev S).bind fun k S1 => .ok (!k) S1 := by
  funext ev S
  unfold truF notF
  generalize fa ev S = o
  cases o with
  | ok x S1 =>
    simp only [Out.bind_ok]
    cases z : truD x <;> rfl
  | exc e S1 => rfl
  | bad => rfl
def iteF' (fc : Den Bool) (fa fb : Den D) : Den D := fun ev S => (fc ev S).bind fun k S2 => if k then fa ev S2 else fb ev S2
def cmpF (o : CmpOp) (fa fb : Den D) : Den D := fun ev S => (fa ev S).bind fun x S1 => (fb ev S1).bind fun y S2 => .of ((cmpD o x y).map .bl) S2
theorem truF_cmp (o : CmpOp) (fa fb : Den D) : truF (cmpF o fa fb) = fun ev S => (fa ev S).bind fun x S1 => (fb ev S1).bind fun y S2 => .of (cmpD o x y) S2 := by
  funext ev S
  unfold truF cmpF
  generalize fa ev S = o1
  cases o1 with
  | ok x S1 =>
    simp only [Out.bind_ok]
    generalize fb ev S1 = o2
    cases o2 with
    | ok y S2 =>
      simp only [Out.bind_ok]
      cases z : cmpD o x y <;> rfl
    | exc e S1 => rfl
    | bad => rfl
  | exc e S1 => rfl
  | bad => rfl
/-- subscripts, slices -/
theorem pe_idxX (hK : X.K = t.K) (hs : PlainIx b) (ha : PE X a (rdE t W ba fa)) (hb : PE X b (rdE t W bb fb)) :
    PE X (.Subscript a b pos) (rdE t W true fun ev S => (fa ev S).bind fun x S1 => (fb ev S1).bind fun y S2 => .of (idxD S2 x y) S2) := by
  refine PE.imp (pe_ix (ix_D hK) ha hb hs) fun σ H Q h => ?_
  obtain ⟨ev, S, g, sl, w, h⟩ := rd_bind (R1 := RepB t ba) h
  refine ⟨ev, S, g, sl, w, h.mono fun v H1 ⟨ev, S1, g1, x, sl1, w1, r1, h1⟩ => ?_⟩
  refine ⟨ev, S1, g1, sl1, w1, (Aft.bind h1).mono fun u H2 ⟨y, S2, g2, f2, w2, r2, h2⟩ => ?_⟩
  obtain ⟨d, e, q⟩ := Aft.of h2
  exact ⟨S2, g2, x, y, d, w2, (r1.frm f2).weak, RepB.weak r2, e, fun v r => q v _ _ (Frm.refl _ _) w2 (.of r)⟩
def RepO : Hp → Gh → Option Int → Option Int → Prop := fun _ _ a b => a = b
theorem po_noneX : PO X none (rd t W RepO fun _ S => .ok none S) := by
  refine PO.imp po_none fun σ H Q h => ?_
  obtain ⟨ev, S, g, sl, w, h⟩ := h
  exact h none H g (Frm.refl _ _) w rfl
theorem po_someX (ha : PE X a (rdE t W ba fa)) : PO X (some a) (rd t W RepO fun ev S => (fa ev S).bind fun x S1 => .of (intO x) S1) := by
  refine PO.imp (po_some ha) fun σ H Q h => ?_
  obtain ⟨ev, S, g, sl, w, h⟩ := rd_bind (R1 := RepB t ba) h
  refine ⟨ev, S, g, sl, w, h.mono fun v H1 ⟨ev, S1, g1, x, sl1, w1, r1, h1⟩ => ?_⟩
  obtain ⟨d, e, q⟩ := Aft.of h1
  unfold intO at e
  split at e
  · cases e
    exact ⟨_, (RepB.weak r1).int, q _ _ _ (Frm.refl _ _) w1 rfl⟩
  · cases e
theorem pe_slcX {lo hi : Option Expr} {fl fh : Den (Option Int)} {p2 : Pos} (hK : X.K = t.K) (ha : PE X a (rdE t W ba fa)) (hl : PO X lo (rd t W RepO fl)) (hh : PO X hi (rd t W RepO fh)) :
    PE X (.Subscript a (.Slice lo hi none p2) pos) (rdE t W true fun ev S => (fa ev S).bind fun x S1 => (fl ev S1).bind fun l S2 => (fh ev S2).bind fun u S3 => .of (slcD S3 x l u) S3) := by
  refine PE.imp (pe_slice (sl_D hK) ha hl hh) fun σ H Q h => ?_
  obtain ⟨ev, S, g, sl, w, h⟩ := rd_bind (R1 := RepB t ba) h
  refine ⟨ev, S, g, sl, w, h.mono fun v H1 ⟨ev, S1, g1, x, sl1, w1, r1, h1⟩ => ?_⟩
  refine ⟨ev, S1, g1, sl1, w1, (Aft.bind (R1 := RepO) h1).mono fun u H2 ⟨y, S2, g2, f2, w2, r2, h2⟩ => ?_⟩
  cases (show y = u from r2)
  refine ⟨ev, S2, g2, sl1.frm f2, w2, (Aft.bind (R1 := RepO) h2).mono fun u3 H3 ⟨z, S3, g3, f3, w3, r3, h3⟩ => ?_⟩
  cases (show z = u3 from r3)
  obtain ⟨d, e, q⟩ := Aft.of h3
  exact ⟨S3, g3, x, d, w3, ((r1.frm f2).frm f3).weak, e, fun v H' g' f w r => q v H' g' f w (.of r)⟩
/-- built-in functions -/
def biName : Bi → Str
  | .len => "len"
  | .all => "all"
  | .any => "any"
  | .sum => "sum"
  | .tuple => "tuple"
  | .list => "list"
  | .int => "int"
  | .abs => "abs"
theorem boot_bi (b : Bi) : bootBuiltins (biName b) = some (biV b) := by cases b <;> decide +kernel
theorem name_bi (b : Bi) : biName b ≠ "__name__" ∧ (biName b == ("__debug__" : Str)) = false := by cases b <;> exact ⟨by decide, by decide⟩
theorem bi_kind (b : Bi) : (∃ s, biV b = .builtin s) ∨ ∃ s, biV b = .type s := by
  cases b <;> first | exact .inl ⟨_, rfl⟩ | exact .inr ⟨_, rfl⟩
theorem pe_biX {es : List Expr} {bs : List Bool} {fs : Den (List D)} {p : Pos} {bi : Bi} (hK : X.K = t.K) (hc : X.calm = true) (hg : Gl X (biName bi)) (hm : X.mg (biName bi) = none) (h : PA X (a :: es) (rdA t W bs fs))
    (he : starEach (a :: es) X.env = (false, eval a X.env) :: starEach es X.env) (hpl : (backTo pos (starEach es X.env)).any (·.1) = false) :
    PE X (.Call (.Name (biName bi) p) (a :: es) [] pos) (rdE t W true fun ev S => (fs ev S).bind fun l S1 => .of (biD S1 bi l) S1) := by
  have go : PE X (.Call (.Name (biName bi) p) (a :: es) [] pos) (tCB (rBi t bi) (rdA t W bs fs)) := by
    have hc' := call_bi hK hc bi
    have hv := boot_bi bi
    obtain ⟨n1, n2⟩ := name_bi bi
    rcases bi_kind bi with ⟨z, e⟩ | ⟨z, e⟩
    · rw [e] at hc' hv
      exact pe_callB hc' hg hm hv h n1 n2 he hpl
    · rw [e] at hc' hv
      exact pe_callTy hc' hg hm hv h n1 n2 he hpl
  refine PE.imp go fun σ H Q h => ?_
  obtain ⟨ev, S, g, sl, w, h⟩ := rd_bind (R1 := fun H g ds xs => RepsX t H g bs ds xs) h
  refine ⟨ev, S, g, sl, w, h.mono fun v H1 ⟨ev, S1, g1, x, sl1, w1, r1, h1⟩ => ?_⟩
  obtain ⟨d, e, q⟩ := Aft.of h1
  exact ⟨S1, g1, x, d, w1, RepsX.weak r1, e, fun v H' g' f w r => q v H' g' f w (.of r)⟩
/-- list(x): a new list -/
theorem pf_listX {es : List Expr} {bs : List Bool} {fs : Den (List D)} {p : Pos} (hK : X.K = t.K) (hg : Gl X "list") (hm : X.mg "list" = none) (h : PA X (a :: es) (rdA t W bs fs))
    (he : starEach (a :: es) X.env = (false, eval a X.env) :: starEach es X.env) (hpl : (backTo pos (starEach es X.env)).any (·.1) = false) :
    PE X (.Call (.Name "list" p) (a :: es) [] pos) (rdF t W fun ev S => (fs ev S).bind fun l S1 => .of (biD S1 .list l) S1) := by
  refine PE.imp (pe_callTy call_list_of hg hm (by decide +kernel) h (by decide) (by decide) he hpl) fun σ H Q h => ?_
  obtain ⟨ev, S, g, sl, w, h⟩ := h
  refine ⟨ev, S, g, sl, w, (Aft.bind (R1 := fun H g ds xs => RepsX t H g bs ds xs) h).mono fun v H1 ⟨x, S1, g1, f1, w1, r1, h1⟩ => ?_⟩
  obtain ⟨d, e, q⟩ := Aft.of h1
  have fin : ∀ {l : List D} {p : Addr} {ys : List V}, d = .lst l → Reps t g1 l ys → H1 p = none → Q (.ref p) (upd H1 p (.lst ys)) := fun {l p ys} ed r hp => by
    refine q _ _ g1 (Frm.fresh w1 hp) (w1.fresh hp) ⟨l, p, ys, ed, rfl, ?_, upd_same, w1.gfree hp, w1.ifree hp, r⟩
    cases z : H p with
    | none => rfl
    | some o => exact absurd hp (f1.live p (by rw [z]; simp))
  unfold biD at e
  split at e <;> first | (rename_i heq; cases heq; done) | skip
  · cases e
    obtain ⟨y, rfl, h1⟩ := (RepsX.weak r1).one
    obtain ⟨p, ys, rfl, h2, r2⟩ := h1.lst w1
    rw [← hK] at h2
    exact ⟨p, ys, rfl, .inl h2, fun l hl => fin rfl r2 hl⟩
  · cases e
    obtain ⟨y, rfl, h1⟩ := (RepsX.weak r1).one
    obtain ⟨p, ys, rfl, h2, r2⟩ := h1.tup w1
    rw [← hK] at h2
    exact ⟨p, ys, rfl, .inr h2, fun l hl => fin rfl r2 hl⟩
  · split at e
    · rename_i l hs
      cases e
      obtain ⟨y, rfl, h1⟩ := (RepsX.weak r1).one
      obtain ⟨p, rfl, hi⟩ := h1.cel
      obtain ⟨p', e1, _, ys, h2, r2⟩ := w1.cel _ _ hs
      rw [hi] at e1; cases e1
      exact ⟨p, ys, rfl, .inl (.inl (.inl h2)), fun l hl => fin rfl r2 hl⟩
    · cases e
  · cases e
end
end Mp

set_option Elab.async false
set_option linter.all false
set_option maxRecDepth 100000
set_option autoImplicit false
set_option maxHeartbeats 1000000
namespace Mp
open PySem PySem.Spec L2
/-! ### walks over lists and tuples alike -/
section
variable {X : Cx} {tg : Expr}
def iSeq (K : PySem.W.Frag) (tl : TE) : TI := fun σ H R => tl σ H fun x H1 => ∃ a, x = .ref a ∧ (((∃ xs, SqL K H1 a xs) ∧ R (Itl K a) H1) ∨ ((∃ xs, SqT K H1 a xs) ∧ R (Itt K a) H1))
theorem pi_seq {l : Expr} {tl : TE} (hl : PE X l tl) : PI X tg l (iSeq X.K tl) := by
  refine ⟨fun pins s σ H R I h => ?_⟩
  refine thn (hl.run pins s σ H _ I h) fun v s1 ⟨x, H1, I1, r1, q1⟩ => ?_
  obtain ⟨a, e, q⟩ := q1
  subst e
  cases r1
  rcases q with ⟨⟨xs, hq⟩, q⟩ | ⟨⟨xs, hq⟩, q⟩
  · obtain ⟨its, rv, p, hz⟩ := I1.list hq
    refine wpAny_pyIter_list p.isList ?_
    refine ⟨s1.heap.objs.size, [s1.heap.objs.size], _, _, H1, rfl, I1.kept (t' := s1.toks) fun b o e => Heap.get?_push_of_some _ e, turn_list a _, ⟨_, Heap.get?_push_size _ rfl, rfl, rfl⟩, fun b hb => ?_, q⟩
    have e : b = s1.heap.objs.size := by simpa using hb
    subst e
    exact I1.fpOk (Nat.le_refl _) (I1.hok.fresh (Nat.le_refl _))
  · obtain ⟨its, rv, p, hz⟩ := I1.tuple hq
    refine wpAny_pyIter_tuple (show s1.heap.IsTuple a its.toArray from p) ?_
    refine ⟨s1.heap.objs.size, [s1.heap.objs.size], _, _, H1, rfl, I1.kept (t' := s1.toks) fun b o e => Heap.get?_push_of_some _ e, turn_tuple a _, ⟨_, Heap.get?_push_size _ rfl, rfl, rfl⟩, fun b hb => ?_, q⟩
    have e : b = s1.heap.objs.size := by simpa using hb
    subst e
    exact I1.fpOk (Nat.le_refl _) (I1.hok.fresh (Nat.le_refl _))
end
/-! ### enumerate(tuple) -/
theorem meets_enumerate_newT (l : Addr) (items : Array Value) (n : Nat) (dct : Option Addr) (sl : Array (Option Value)) :
    Meets (Builtin.«enumerate.__new__» ⟨[.type "enumerate", .ref l], []⟩) (fun _ R s => s.heap.get? l = some { cls := .type "tuple", dict := dct, data := .seq items n, slots := sl } ∧
      R (.ok (.ret (.ref (s.heap.push { cls := .type "tuple_iterator", data := .fields #[.ref l, .int 0 0] }).objs.size)))
        { s with heap := (s.heap.push { cls := .type "tuple_iterator", data := .fields #[.ref l, .int 0 0] }).push { cls := .type "enumerate", data := .fields #[.none, .bool false, .ref s.heap.objs.size, rawInt 0, .none, .none] } }) :=
  .of_wp fun prog w A R s h => by
    obtain ⟨hp, g, d, tk, os⟩ := s; obtain ⟨hl, h⟩ := h
    have hsub := sub_enumerate
    have hL : Heap.IsTuple (Shared.heap ⟨hp, g, d, tk, os⟩) l items := ⟨_, hl, rfl, n, rfl⟩
    wp_walk using AutoSeq1.wpAny_loadPart' hl
    refine wpAny_stack_any fun st => wpAny_pure ?_
    split
    · rename_i c _ _ _ _ _
      cases (c == Value.type "enumerate")
      · wp_walk using AutoSeq1.wpAny_loadPart' hl, wpAny_pyIter_tuple hL
        exact ⟨_, rfl, h⟩
      · wp_walk using AutoSeq1.wpAny_loadPart' hl, wpAny_pyIter_tuple hL
        exact ⟨_, rfl, h⟩
    · wp_walk using AutoSeq1.wpAny_loadPart' hl, wpAny_pyIter_tuple hL
      exact ⟨_, rfl, h⟩
theorem call_enumerate_tuple {prog : Program} {w : World} {A : Around} {E : Value → Shared → Prop} {s : Shared} {l : Addr} {items : Array Value} {Q : Value → Shared → Prop} (hL : s.heap.IsTuple l items)
    (h : ∀ h', IsEnum h' (s.heap.objs.size + 1) s.heap.objs.size 0 .none → h'.IsTupleIter s.heap.objs.size l 0 → h'.objs.size = s.heap.objs.size + 2 →
      (∀ b o, s.heap.get? b = some o → h'.get? b = some o) → Q (.ref (s.heap.objs.size + 1)) { s with heap := h' }) :
    wpAny (model prog w) A (call (.type "enumerate") [.ref l]) Q E s := by
  obtain ⟨⟨c, dct, dt, sl⟩, hl, hc, n, hd⟩ := hL
  replace hc : c = .type "tuple" := hc
  replace hd : dt = .seq items n := hd
  subst hc hd
  refine callType_new F.called_enumerate (by decide) (F.typeCall_enumerate_1 _) (F.newCall_enumerate_1 _) (fun obj => F.args_object_init_2 obj _) F.entry_enumerate_new
    (meets_enumerate_newT l items n dct sl) ⟨hl, ?_⟩
  have hz : (s.heap.push { cls := .type "tuple_iterator", data := .fields #[.ref l, .int 0 0] }).objs.size = s.heap.objs.size + 1 := Heap.size_push ..
  show _ ∧ _
  rw [hz]
  have he : IsEnum ((s.heap.push { cls := .type "tuple_iterator", data := .fields #[.ref l, .int 0 0] }).push
      { cls := .type "enumerate", data := .fields #[.none, .bool false, .ref s.heap.objs.size, rawInt 0, .none, .none] }) (s.heap.objs.size + 1) s.heap.objs.size 0 .none := by
    have := Heap.get?_push_size (s.heap.push { cls := .type "tuple_iterator", data := .fields #[.ref l, .int 0 0] })
      (o := { cls := .type "enumerate", data := .fields #[.none, .bool false, .ref s.heap.objs.size, rawInt 0, .none, .none] }) rfl
    rw [hz] at this; exact this
  refine ⟨⟨_, he, rfl⟩, h _ he ⟨_, Heap.get?_push_of_some _ (Heap.get?_push_size _ rfl), rfl, rfl⟩ (by rw [Heap.size_push, hz]) fun b o x => Heap.get?_push_of_some _ (Heap.get?_push_of_some _ x)⟩
def IteT (K : PySem.W.Frag) (a : Addr) : It :=
  ⟨fun i H => ∃ (xs : List V) (x : V), SqT K H a xs ∧ xs[i]? = some x, fun i H v H' => ∃ T x, v = .ref T ∧ H T = none ∧ H' = upd H T (.tup [.int (i : Nat), x]) ∧ ∀ xs, SqT K H a xs → xs[i]? = some x, fun i H => ∃ xs : List V, SqT K H a xs ∧ xs.length ≤ i⟩
theorem turn_enumT {P : Program} {w : World} {K : PySem.W.Frag} {elts : List Expr} {kk : Nat} {tpos : Pos} (a e it : Addr) :
    Turn P w K (.Tuple elts kk tpos) (IteT K a) [e, it] e (fun i h => (∃ old, IsEnum h e it ((i : Nat) : Int) old) ∧ h.IsTupleIter it a i ∧ e ≠ it ∧ a ≠ it ∧ a ≠ e) where
  mem := by simp
  obj := fun i h st b hb => by
    obtain ⟨⟨old, he⟩, ⟨o, ho, hc, hd⟩, _⟩ := st
    have e' : b = e ∨ b = it := by simpa using hb
    rcases e' with z | z
    · rw [z]; exact ⟨_, he, fun v q => nomatch q⟩
    · rw [z]; exact ⟨o, ho, fun v q => by rw [hd] at q; cases q⟩
  keep := fun i h h' st k => let ⟨⟨old, he⟩, hi, hne⟩ := st; ⟨⟨old, k e (by simp) _ he⟩, hi.at fun o q => k it (by simp) o q, hne⟩
  item := by
    intro X hP hw hK hc i pins s σ H E I hf st hg
    subst hP hw hK
    obtain ⟨⟨old, he⟩, hit, hne, hai, hae⟩ := st
    obtain ⟨xs, x, hq, hx⟩ := hg
    obtain ⟨its, rv, p, hz⟩ := I.tuple hq
    have hel : e < s.heap.objs.size := Heap.lt_size he
    have hil : it < s.heap.objs.size := by obtain ⟨_, q, _⟩ := hit; exact Heap.lt_size q
    have hlt : i < its.toArray.size := by
      have := (List.getElem?_eq_some_iff.mp hx).1
      rw [List.size_toArray, ← rv.length]; exact this
    refine wpAny_pyNext_enum_itemD (Draws.tuple (prog := X.prog) (w := X.w) (A := X.A.in1) (I.ok.hd hc) it a hai its.toArray) he ⟨hit, p⟩ hlt hne (by simp; exact ⟨hne, Ne.symm hae⟩) fun u h' tk hu ho hit' hT hsz hk => ?_
    refine ⟨_, rfl, wpAny_letOwnedTupleGo_enum (s := { s with heap := h', toks := tk + 1 }) ho fun h'' he' sb => ?_⟩
    obtain ⟨u', hu', ru⟩ := rv.get hx
    have eu : u = u' := by
      have z1 : its[i]? = some u := by simpa using hu
      rw [z1] at hu'; exact Option.some.inj hu'
    subst eu
    have hT2 : h''.get? s.heap.objs.size = some { cls := .type "tuple", data := .seq #[.int i tk, u] } := (sb.2 _ (Nat.ne_of_gt hel)).trans hT
    have new : ObjOk X.prog X.w (upd H s.heap.objs.size (.tup [.int (i : Nat), x])) h'' s.heap.objs.size (.tup [.int (i : Nat), x]) :=
      ⟨by show 2 ≤ sizeLine; decide, [.int i tk, u], .cons ⟨_, rfl⟩ (.cons ru .nil), ⟨_, hT2, rfl, _, rfl⟩⟩
    have I1 : Inv X pins σ (upd H s.heap.objs.size (.tup [.int (i : Nat), x])) { s with heap := h'', toks := tk + 1 } :=
      I.turnedNew (ch := [e, it]) (fun b ob hb q => (sb.2 b (fun z => hb (by simp [z]))).trans (hk b ob (fun z => hb (by simp [z])) (fun z => hb (by simp [z])) q)) hf (Nat.le_refl _) new
    refine ⟨.ref s.heap.objs.size, _, I1, rfl, ⟨_, x, rfl, I.hok.fresh (Nat.le_refl _), rfl, fun ys hy => by rw [I.tuple_inj hy hq]; exact hx⟩, ⟨⟨u, ?_⟩, hit'.1.at fun o q => (sb.2 it (Ne.symm hne)).trans q, hne, hai, hae⟩, fun b hb => ?_⟩
    · have e1 : ((i + 1 : Nat) : Int) = (i : Int) + 1 := by omega
      rw [e1]; exact he'
    · have hb' : b < s.heap.objs.size := by
        have e' : b = e ∨ b = it := by simpa using hb
        rcases e' with z | z
        · rw [z]; exact hel
        · rw [z]; exact hil
      rw [upd_ne (Nat.ne_of_lt hb')]
      exact (hf b hb).1
  done := by
    intro X hP hw hK hc i pins s σ H E I hf st hg
    subst hP hw hK
    obtain ⟨⟨old, he⟩, hit, hne, hai, hae⟩ := st
    obtain ⟨xs, hq, hx⟩ := hg
    obtain ⟨its, rv, p, hz⟩ := I.tuple hq
    obtain ⟨f0, f1, f2, f3, f4, f5⟩ := hf it (by simp)
    have hl := rv.length
    have hT : s.TypeIs (.ref e) "enumerate" := ⟨_, he, rfl⟩
    unfold pyNext
    refine wpAny_bind (wpAny_attempt (wpAny_callSpecial?_slot (name := Str.ofString "__next__") hT F.slot_enumerate_next
      (wpAny_call_entry F.slot_enumerate_next hT F.entry_enumerate_next ?_ (F.args_enumerate_next_1 _))))
    show wpAny _ _ (field (.ref e) 2 >>= _) _ _ _
    refine wpAny_bind (wpAny_field he rfl (x := .ref it) rfl ?_)
    refine wpAny_bind (wpAny_nextOf_tuple_end (I.ok.hd hc) hit (show s.heap.IsTuple a its.toArray from p) (by simp; omega) fun h' x he' hx' => ?_)
    obtain ⟨o, ho, hc'⟩ := hx'
    refine wpAny_bind (wpAny_isInstance (T := "StopIteration") (b := true) ⟨o, ho, hc'⟩ isSubtype_stop ?_)
    exact wpAny_pure ⟨rfl, I.turned (t' := s.toks) (fun b o hb q => he' b o hb q) f0 f1 f3 f4 f5⟩
  self := fun A i s Q E st h => let ⟨⟨_, he⟩, _⟩ := st; wpAny_pyIter_enum he h
def iEnumA (K : PySem.W.Frag) (ta : TA) : TI := fun σ H R => ta σ H fun vs H1 => ∃ a xs, vs = [.ref a] ∧ ((SqL K H1 a xs ∧ R (Ite K a) H1) ∨ (SqT K H1 a xs ∧ R (IteT K a) H1))
theorem pi_enumA {X : Cx} {e : Expr} {ta : TA} {p pos tpos : Pos} {elts : List Expr} {kk : Nat} (hg : Gl X "enumerate") (hm : X.mg "enumerate" = none) (ha : PA X [e] ta) (hs : starEach [e] X.env = [(false, eval e X.env)]) :
    PI X (.Tuple elts kk tpos) (.Call (.Name "enumerate" p) [e] [] pos) (iEnumA X.K ta) := by
  refine ⟨fun pins s σ H R I h => ?_⟩
  refine PyProof.Rows.Call_ (ld_blt I hg hm PyProof.Rows.boot_enumerate (PyProof.Rows.callWith_type1 (thn (ha.run pos pins s σ H _ I h) fun us s1 ⟨vs, H1, I1, r1, q1⟩ => ?_) hs rfl))
  obtain ⟨a, xs, ex, q⟩ := q1
  subst ex
  cases r1 with
  | cons r rr =>
    cases rr
    cases r
    rcases q with ⟨hq, q⟩ | ⟨hq, q⟩
    · obtain ⟨its, rv, p', hz⟩ := I1.list hq
      refine call_enumerate_list p'.isList fun h' he hit hsz hk => wpAny_pyIter_enum he ?_
      have I2 : Inv X pins σ H1 { s1 with heap := h' } := I1.kept (t' := s1.toks) hk
      refine ⟨s1.heap.objs.size + 1, [s1.heap.objs.size + 1, s1.heap.objs.size], _, _, H1, rfl, I2, turn_enum a (s1.heap.objs.size + 1) s1.heap.objs.size, ⟨⟨.none, he⟩, hit, Nat.succ_ne_self _⟩, fun b hb => ?_, q⟩
      have e' : b = s1.heap.objs.size + 1 ∨ b = s1.heap.objs.size := by simpa using hb
      rcases e' with z | z
      · rw [z]; exact I1.fpOk (Nat.le_succ _) (I1.hok.fresh (Nat.le_succ _))
      · rw [z]; exact I1.fpOk (Nat.le_refl _) (I1.hok.fresh (Nat.le_refl _))
    · obtain ⟨its, rv, p', hz⟩ := I1.tuple hq
      have hal : a < s1.heap.objs.size := p'.lt
      refine call_enumerate_tuple (show s1.heap.IsTuple a its.toArray from p') fun h' he hit hsz hk => wpAny_pyIter_enum he ?_
      have I2 : Inv X pins σ H1 { s1 with heap := h' } := I1.kept (t' := s1.toks) hk
      refine ⟨s1.heap.objs.size + 1, [s1.heap.objs.size + 1, s1.heap.objs.size], _, _, H1, rfl, I2, turn_enumT a (s1.heap.objs.size + 1) s1.heap.objs.size, ⟨⟨.none, he⟩, hit, Nat.succ_ne_self _, Nat.ne_of_lt hal, Nat.ne_of_lt (Nat.lt_succ_of_lt hal)⟩, fun b hb => ?_, q⟩
      have e' : b = s1.heap.objs.size + 1 ∨ b = s1.heap.objs.size := by simpa using hb
      rcases e' with z | z
      · rw [z]; exact I1.fpOk (Nat.le_succ _) (I1.hok.fresh (Nat.le_succ _))
      · rw [z]; exact I1.fpOk (Nat.le_refl _) (I1.hok.fresh (Nat.le_refl _))
end Mp

set_option Elab.async false
set_option linter.all false
set_option maxRecDepth 100000
set_option autoImplicit false
set_option maxHeartbeats 1000000
namespace Mp
open PySem PySem.Spec L2
/-- an iterator goes through ds, whatever is done beside it -/
def ItR (t : Tp) : Hp → Gh → (List D × Gd) → It → Prop := fun H0 g0 q J => ∀ (i : Nat) (g : Gh) (H : Hp) (S : Store), Le g0 g → Wld t S g H → gdB q.2 S = true →
  (∀ d, q.1[i]? = some d → J.go i H ∧ ∀ x H', J.yld i H x H' → ∃ g', Frm g H g' H' ∧ Wld t S g' H' ∧ Rep t g' d x) ∧ (q.1.length ≤ i → J.stop i H)
abbrev rdI (t : Tp) (W : WX) (f : Den (List D × Gd)) : TI := rd t W (ItR t) f
theorem gdB_some {n : Nat} {l : List D} {S : Store} (h : gdB (some (n, l)) S = true) : S[n]? = some (.lst l) := by
  unfold gdB at h
  split at h
  · rename_i h1; cases h1
  · rename_i h1
    cases h1
    split at h
    · rename_i l' hs
      rw [hs, sameDs_eq _ _ h]
    · cases h
section
variable {t : Tp} {H0 : Hp} {g0 : Gh}
theorem itR_list {K : PySem.W.Frag} (hK : K = t.K) {a : Addr} {xs : List V} {ds : List D} (h : SqL t.K g0.G a xs) (r : Reps t g0 ds xs) : ItR t H0 g0 (ds, none) (Itl K a) := by
  subst hK
  intro i g H S f w _
  dsimp only
  have hq : SqL t.K H a xs := sqL_mono w.sub (sqL_mono f.1 h)
  refine ⟨fun d e => ?_, fun e => ⟨xs, hq, by rw [← r.len]; exact e⟩⟩
  obtain ⟨x, hx, rx⟩ := r.get e
  refine ⟨⟨xs, x, hq, hx⟩, fun y H' ⟨e1, e2⟩ => ?_⟩
  subst e1
  have := e2 xs hq
  rw [hx] at this; cases this
  exact ⟨g, Frm.refl _ _, w, rx.le f⟩
theorem itR_tup {K : PySem.W.Frag} (hK : K = t.K) {a : Addr} {xs : List V} {ds : List D} (h : SqT t.K g0.G a xs) (r : Reps t g0 ds xs) : ItR t H0 g0 (ds, none) (Itt K a) := by
  subst hK
  intro i g H S f w _
  dsimp only
  have hq : SqT t.K H a xs := sqT_mono w.sub (sqT_mono f.1 h)
  refine ⟨fun d e => ?_, fun e => ⟨xs, hq, by rw [← r.len]; exact e⟩⟩
  obtain ⟨x, hx, rx⟩ := r.get e
  refine ⟨⟨xs, x, hq, hx⟩, fun y H' ⟨e1, e2⟩ => ?_⟩
  subst e1
  have := e2 xs hq
  rw [hx] at this; cases this
  exact ⟨g, Frm.refl _ _, w, rx.le f⟩
theorem itR_rng {lo : Int} {n : Nat} : ItR t H0 g0 ((List.range n).map fun k : Nat => D.int (lo + (k : Int)), none) (Itr lo n) := by
  intro i g H S f w _
  dsimp only
  refine ⟨fun d e => ?_, fun e => by show n ≤ i; simpa using e⟩
  have hi : i < n := by
    rw [List.getElem?_map] at e
    cases q : (List.range n)[i]? with
    | none => rw [q] at e; cases e
    | some k =>
      have := (List.getElem?_eq_some_iff.mp q).1
      simpa using this
  have ed : d = .int (lo + (i : Int)) := by
    rw [List.getElem?_map, List.getElem?_range hi] at e
    cases e; rfl
  subst ed
  refine ⟨hi, fun y H' ⟨e1, e2⟩ => ?_⟩
  subst e1 e2
  exact ⟨g, Frm.refl _ _, w, by simp only [Rep]⟩
theorem zipIdx_get (l : List D) (i : Nat) : (enmL l)[i]? = l[i]?.map fun d => D.tup [.int i, d] := by
  unfold enmL
  rw [List.getElem?_map, List.getElem?_zipIdx]
  cases l[i]? with
  | none => rfl
  | some d => simp
theorem pair_rep {g : Gh} {H : Hp} {S : Store} {T : Addr} {d1 d2 : D} {v1 v2 : V} (w : Wld t S g H) (hT : H T = none) (r1 : Rep t g d1 v1) (r2 : Rep t g d2 v2) :
    ∃ g', Frm g H g' (upd H T (.tup [v1, v2])) ∧ Wld t S g' (upd H T (.tup [v1, v2])) ∧ Rep t g' (.tup [d1, d2]) (.ref T) :=
  ⟨_, Frm.new w hT, w.new hT, Rep.newT w hT (.cons r1 (.one r2))⟩
theorem itR_enumL {K : PySem.W.Frag} (hK : K = t.K) {a : Addr} {xs : List V} {l : List D} (h : SqL t.K g0.G a xs) (r : Reps t g0 l xs) : ItR t H0 g0 (enmL l, none) (Ite K a) := by
  subst hK
  intro i g H S f w _
  dsimp only
  have hq : SqL t.K H a xs := sqL_mono w.sub (sqL_mono f.1 h)
  refine ⟨fun d e => ?_, fun e => ⟨xs, hq, by rw [← r.len]; simpa [enmL] using e⟩⟩
  rw [zipIdx_get] at e
  cases q : l[i]? with
  | none => rw [q] at e; cases e
  | some d' =>
    rw [q] at e; cases e
    obtain ⟨x, hx, rx⟩ := r.get q
    refine ⟨⟨xs, x, hq, hx⟩, fun y H' ⟨T, z, e1, e2, e3, e4⟩ => ?_⟩
    subst e1 e3
    have := e4 xs hq
    rw [hx] at this; cases this
    exact pair_rep w e2 (by simp only [Rep]) (rx.le f)
theorem itR_enumT {K : PySem.W.Frag} (hK : K = t.K) {a : Addr} {xs : List V} {l : List D} (h : SqT t.K g0.G a xs) (r : Reps t g0 l xs) : ItR t H0 g0 (enmL l, none) (IteT K a) := by
  subst hK
  intro i g H S f w _
  dsimp only
  have hq : SqT t.K H a xs := sqT_mono w.sub (sqT_mono f.1 h)
  refine ⟨fun d e => ?_, fun e => ⟨xs, hq, by rw [← r.len]; simpa [enmL] using e⟩⟩
  rw [zipIdx_get] at e
  cases q : l[i]? with
  | none => rw [q] at e; cases e
  | some d' =>
    rw [q] at e; cases e
    obtain ⟨x, hx, rx⟩ := r.get q
    refine ⟨⟨xs, x, hq, hx⟩, fun y H' ⟨T, z, e1, e2, e3, e4⟩ => ?_⟩
    subst e1 e3
    have := e4 xs hq
    rw [hx] at this; cases this
    exact pair_rep w e2 (by simp only [Rep]) (rx.le f)
theorem itR_cel {K : PySem.W.Frag} {a : Addr} {n : Nat} {l : List D} (h : g0.io n = some a) : ItR t H0 g0 (l, some (n, l)) (Itl K a) := by
  intro i g H S f w hg
  obtain ⟨p, e1, _, xs, h1, r⟩ := w.cel n _ (gdB_some hg)
  rw [f.2 _ _ h] at e1; cases e1
  have hq : SqL K H a xs := .inl (.inl h1)
  refine ⟨fun d e => ?_, fun e => ⟨xs, hq, by rw [← r.len]; exact e⟩⟩
  obtain ⟨x, hx, rx⟩ := r.get e
  refine ⟨⟨xs, x, hq, hx⟩, fun y H' ⟨e1, e2⟩ => ?_⟩
  subst e1
  have := e2 xs hq
  rw [hx] at this; cases this
  exact ⟨g, Frm.refl _ _, w, rx⟩
theorem itR_enumC {K : PySem.W.Frag} {a : Addr} {n : Nat} {l : List D} (h : g0.io n = some a) : ItR t H0 g0 (enmL l, some (n, l)) (Ite K a) := by
  intro i g H S f w hg
  obtain ⟨p, e1, _, xs, h1, r⟩ := w.cel n _ (gdB_some hg)
  rw [f.2 _ _ h] at e1; cases e1
  have hq : SqL K H a xs := .inl (.inl h1)
  refine ⟨fun d e => ?_, fun e => ⟨xs, hq, by rw [← r.len]; simpa [enmL] using e⟩⟩
  dsimp only at e
  rw [zipIdx_get] at e
  cases q : l[i]? with
  | none => rw [q] at e; cases e
  | some d' =>
    rw [q] at e; cases e
    obtain ⟨x, hx, rx⟩ := r.get q
    refine ⟨⟨xs, x, hq, hx⟩, fun y H' ⟨T, z, e1, e2, e3, e4⟩ => ?_⟩
    subst e1 e3
    have := e4 xs hq
    rw [hx] at this; cases this
    exact pair_rep w e2 (by simp only [Rep]) rx
theorem itR_str {x : Str} : ItR t H0 g0 (chars x, none) (Its x) := by
  intro i g H S f w _
  dsimp only
  refine ⟨fun d e => ?_, fun e => by show x.cps.size ≤ i; simpa [chars] using e⟩
  unfold chars at e
  rw [List.getElem?_map] at e
  cases q : x.cps.toList[i]? with
  | none => rw [q] at e; cases e
  | some c =>
    rw [q] at e; cases e
    have hi : i < x.cps.size := by
      have := (List.getElem?_eq_some_iff.mp q).1
      simpa using this
    refine ⟨hi, fun y H' ⟨e1, c', e2, e3⟩ => ?_⟩
    subst e1 e3
    have e4 : x.cps[i]? = some c := by simpa using q
    rw [e4] at e2; cases e2
    exact ⟨g, Frm.refl _ _, w, by simp only [Rep]⟩
theorem zip_get (l m : List D) (i : Nat) (d : D) (e : ((l.zip m).map fun p => D.tup [p.1, p.2])[i]? = some d) : ∃ x y, l[i]? = some x ∧ m[i]? = some y ∧ d = .tup [x, y] := by
  rw [List.getElem?_map] at e
  cases q : (l.zip m)[i]? with
  | none => rw [q] at e; cases e
  | some p =>
    rw [q] at e; cases e
    rw [List.getElem?_zip_eq_some] at q
    exact ⟨p.1, p.2, q.1, q.2, rfl⟩
theorem itR_zipL {K : PySem.W.Frag} (hK : K = t.K) {a b : Addr} {xs ys : List V} {l m : List D} (h : SqL t.K g0.G a xs) (r : Reps t g0 l xs) (h2 : SqL t.K g0.G b ys) (r2 : Reps t g0 m ys) : ItR t H0 g0 ((l.zip m).map fun p => D.tup [p.1, p.2], none) (Itz K a b) := by
  subst hK
  intro i g H S f w _
  dsimp only
  have hq : SqL t.K H a xs := sqL_mono w.sub (sqL_mono f.1 h)
  have hq2 : SqL t.K H b ys := sqL_mono w.sub (sqL_mono f.1 h2)
  refine ⟨fun d e => ?_, fun e => ⟨xs, ys, hq, hq2, ?_⟩⟩
  · obtain ⟨x, y, e1, e2, rfl⟩ := zip_get l m i d e
    obtain ⟨vx, hx, rx⟩ := r.get e1
    obtain ⟨vy, hy, ry⟩ := r2.get e2
    refine ⟨⟨xs, ys, vx, vy, hq, hq2, hx, hy⟩, fun z H' ⟨T, z1, z2, q1, q2, q3, q4, q5⟩ => ?_⟩
    subst q1 q3
    have := q4 xs hq
    rw [hx] at this; cases this
    have := q5 ys hq2
    rw [hy] at this; cases this
    exact pair_rep w q2 (rx.le f) (ry.le f)
  · rw [← r.len, ← r2.len]
    simp only [List.length_map, List.length_zip] at e
    omega
theorem itR_zipT {K : PySem.W.Frag} (hK : K = t.K) {a b : Addr} {xs ys : List V} {l m : List D} (h : SqT t.K g0.G a xs) (r : Reps t g0 l xs) (h2 : SqT t.K g0.G b ys) (r2 : Reps t g0 m ys) : ItR t H0 g0 ((l.zip m).map fun p => D.tup [p.1, p.2], none) (RZ.ItzT K a b) := by
  subst hK
  intro i g H S f w _
  dsimp only
  have hq : SqT t.K H a xs := sqT_mono w.sub (sqT_mono f.1 h)
  have hq2 : SqT t.K H b ys := sqT_mono w.sub (sqT_mono f.1 h2)
  refine ⟨fun d e => ?_, fun e => ⟨xs, ys, hq, hq2, ?_⟩⟩
  · obtain ⟨x, y, e1, e2, rfl⟩ := zip_get l m i d e
    obtain ⟨vx, hx, rx⟩ := r.get e1
    obtain ⟨vy, hy, ry⟩ := r2.get e2
    refine ⟨⟨xs, ys, vx, vy, hq, hq2, hx, hy⟩, fun z H' ⟨T, z1, z2, q1, q2, q3, q4, q5⟩ => ?_⟩
    subst q1 q3
    have := q4 xs hq
    rw [hx] at this; cases this
    have := q5 ys hq2
    rw [hy] at this; cases this
    exact pair_rep w q2 (rx.le f) (ry.le f)
  · rw [← r.len, ← r2.len]
    simp only [List.length_map, List.length_zip] at e
    omega
end
section
variable {X : Cx} {t : Tp} {W : WX} {a b c tg : Expr} {fa fb fc : Den D} {pos : Pos}
def iSeqS (K : PySem.W.Frag) (tl : TE) : TI := fun σ H R => tl σ H fun x H1 => (∃ a, x = .ref a ∧ (((∃ xs, SqL K H1 a xs) ∧ R (Itl K a) H1) ∨ ((∃ xs, SqT K H1 a xs) ∧ R (Itt K a) H1))) ∨ ∃ y, x = .str y ∧ R (Its y) H1
theorem pi_seqS {l : Expr} {tl : TE} (hl : PE X l tl) : PI X tg l (iSeqS X.K tl) := by
  refine ⟨fun pins s σ H R I h => ?_⟩
  refine thn (hl.run pins s σ H _ I h) fun v s1 ⟨x, H1, I1, r1, q1⟩ => ?_
  rcases q1 with ⟨a, e, q⟩ | ⟨y, e, q⟩
  · subst e
    cases r1
    rcases q with ⟨⟨xs, hq⟩, q⟩ | ⟨⟨xs, hq⟩, q⟩
    · obtain ⟨its, rv, p, hz⟩ := I1.list hq
      refine wpAny_pyIter_list p.isList ?_
      refine ⟨s1.heap.objs.size, [s1.heap.objs.size], _, _, H1, rfl, I1.kept (t' := s1.toks) fun b o e => Heap.get?_push_of_some _ e, turn_list a _, ⟨_, Heap.get?_push_size _ rfl, rfl, rfl⟩, fun b hb => ?_, q⟩
      have e : b = s1.heap.objs.size := by simpa using hb
      subst e
      exact I1.fpOk (Nat.le_refl _) (I1.hok.fresh (Nat.le_refl _))
    · obtain ⟨its, rv, p, hz⟩ := I1.tuple hq
      refine wpAny_pyIter_tuple (show s1.heap.IsTuple a its.toArray from p) ?_
      refine ⟨s1.heap.objs.size, [s1.heap.objs.size], _, _, H1, rfl, I1.kept (t' := s1.toks) fun b o e => Heap.get?_push_of_some _ e, turn_tuple a _, ⟨_, Heap.get?_push_size _ rfl, rfl, rfl⟩, fun b hb => ?_, q⟩
      have e : b = s1.heap.objs.size := by simpa using hb
      subst e
      exact I1.fpOk (Nat.le_refl _) (I1.hok.fresh (Nat.le_refl _))
  · subst e
    obtain ⟨t, rfl⟩ := r1
    cases ha : y.cps.all (· < 128)
    · exact wpAny_pyIter_wide ha (pi_one (tk := s1.toks) I1 _ (turn_str _ y t "str_iterator" (.inr rfl)) ⟨_, Heap.get?_push_size _ rfl, rfl, rfl⟩ q)
    · exact wpAny_pyIter_ascii ha (pi_one (tk := s1.toks) I1 _ (turn_str _ y t "str_ascii_iterator" (.inl rfl)) ⟨_, Heap.get?_push_size _ rfl, rfl, rfl⟩ q)
theorem pi_seqX (hK : X.K = t.K) (ha : PE X a (rdE t W true fa)) : PI X tg a (rdI t W fun ev S => (fa ev S).bind fun x S1 => .of (seqD S1 x) S1) := by
  refine PI.imp (pi_seqS ha) fun σ H Q h => ?_
  obtain ⟨ev, S, g, sl, w, h⟩ := rd_bind (R1 := RepB t true) h
  refine ⟨ev, S, g, sl, w, h.mono fun v H1 ⟨ev, S1, g1, x, sl1, w1, r1, h1⟩ => ?_⟩
  obtain ⟨l, e, q⟩ := Aft.of h1
  have r := RepB.str r1
  unfold seqD at e
  split at e
  · cases e
    simp only [Rep] at r
    obtain ⟨a, xs, rfl, hq, rs⟩ := r
    refine .inl ⟨a, rfl, .inl ⟨⟨xs, ?_⟩, q _ _ _ (Frm.refl _ _) w1 (itR_list hK hq rs)⟩⟩
    rw [hK]; exact sqL_mono w1.sub hq
  · cases e
    simp only [Rep] at r
    obtain ⟨a, xs, rfl, hq, rs⟩ := r
    refine .inl ⟨a, rfl, .inr ⟨⟨xs, ?_⟩, q _ _ _ (Frm.refl _ _) w1 (itR_tup hK hq rs)⟩⟩
    rw [hK]; exact sqT_mono w1.sub hq
  · split at e
    · cases e
      simp only [Rep] at r
      subst r
      exact .inr ⟨_, rfl, q _ _ _ (Frm.refl _ _) w1 itR_str⟩
    · cases e
  · split at e
    · rename_i hs
      cases e
      simp only [Rep] at r
      obtain ⟨a, rfl, hi⟩ := r
      obtain ⟨p, e1, _, xs, h1, rs⟩ := w1.cel _ _ hs
      rw [hi] at e1; cases e1
      exact .inl ⟨a, rfl, .inl ⟨⟨xs, .inl (.inl h1)⟩, q _ _ _ (Frm.refl _ _) w1 (itR_cel hi)⟩⟩
    · cases e
  · cases e
theorem RepsX.len : ∀ {H : Hp} {g : Gh} {bs : List Bool} {ds : List D} {xs : List V}, RepsX t H g bs ds xs → bs.length = ds.length ∧ bs.length = xs.length
  | _, _, [], [], [], _ => ⟨rfl, rfl⟩
  | _, _, _ :: _, _ :: _, _ :: _, h => by
    obtain ⟨a, b⟩ := RepsX.len h.2
    exact ⟨by simp [a], by simp [b]⟩
  | _, _, [], _ :: _, _, h => h.elim
  | _, _, [], [], _ :: _, h => h.elim
  | _, _, _ :: _, [], _, h => h.elim
  | _, _, _ :: _, _ :: _, [], h => h.elim
theorem pi_rng1X {p : Pos} (hg : Gl X "range") (hm : X.mg "range" = none) {bs : List Bool} {fs : Den (List D)} (hb : bs.length = 1) (ha : PA X [a] (rdA t W bs fs)) (hs : starEach [a] X.env = [(false, eval a X.env)]) :
    PI X tg (.Call (.Name "range" p) [a] [] pos) (rdI t W fun ev S => (fs ev S).bind fun l S1 => .of ((rngD l).map fun q => (q, none)) S1) := by
  refine PI.imp (pi_range1 hg hm ha hs) fun σ H Q h => ?_
  obtain ⟨ev, S, g, sl, w, h⟩ := rd_bind (R1 := fun H g ds xs => RepsX t H g bs ds xs) h
  refine ⟨ev, S, g, sl, w, h.mono fun v H1 ⟨ev, S1, g1, x, sl1, w1, r1, h1⟩ => ?_⟩
  obtain ⟨l, e, q⟩ := Aft.of h1
  obtain ⟨l1, l2⟩ := RepsX.len r1
  obtain ⟨l', e, rfl⟩ := Option.map_eq_some_iff.mp e
  unfold rngD at e
  split at e
  · split at e
    · rename_i hj
      cases e
      simp only [Bool.and_eq_true, decide_eq_true_eq] at hj
      obtain ⟨y, rfl, ry⟩ := (RepsX.weak r1).one
      obtain rfl := ry.int
      refine ⟨_, rfl, hj.1, hj.2, q _ _ _ (Frm.refl _ _) w1 ?_⟩
      have := itR_rng (t := t) (H0 := H1) (g0 := g1) (lo := 0) (n := Int.toNat ‹Int›)
      simpa using this
    · cases e
  · simp only [List.length_cons, List.length_nil] at l1; omega
  · cases e
theorem pi_rng2X {p : Pos} (hg : Gl X "range") (hm : X.mg "range" = none) {bs : List Bool} {fs : Den (List D)} (hb : bs.length = 2) (ha : PA X [a, b] (rdA t W bs fs)) (hs : starEach [a, b] X.env = [(false, eval a X.env), (false, eval b X.env)]) (hs2 : starEach [b] X.env = [(false, eval b X.env)]) :
    PI X tg (.Call (.Name "range" p) [a, b] [] pos) (rdI t W fun ev S => (fs ev S).bind fun l S1 => .of ((rngD l).map fun q => (q, none)) S1) := by
  refine PI.imp (pi_range2 hg hm ha hs hs2) fun σ H Q h => ?_
  obtain ⟨ev, S, g, sl, w, h⟩ := rd_bind (R1 := fun H g ds xs => RepsX t H g bs ds xs) h
  refine ⟨ev, S, g, sl, w, h.mono fun v H1 ⟨ev, S1, g1, x, sl1, w1, r1, h1⟩ => ?_⟩
  obtain ⟨l, e, q⟩ := Aft.of h1
  obtain ⟨l1, l2⟩ := RepsX.len r1
  obtain ⟨l', e, rfl⟩ := Option.map_eq_some_iff.mp e
  unfold rngD at e
  split at e
  · simp only [List.length_cons, List.length_nil] at l1; omega
  · split at e
    · rename_i hj
      cases e
      simp only [Bool.and_eq_true, decide_eq_true_eq] at hj
      match v, RepsX.weak r1 with
      | [v1, v2], h =>
        obtain rfl := h.1.int
        obtain rfl := h.2.1.int
        exact ⟨_, _, rfl, ⟨hj.1.1.1, hj.1.1.2, hj.1.2, hj.2⟩, q _ _ _ (Frm.refl _ _) w1 itR_rng⟩
      | [], h => exact h.elim
      | [_], h => exact h.2.elim
      | _ :: _ :: _ :: _, h => exact h.2.2.elim
    · cases e
  · cases e
theorem pi_enmX {p tpos : Pos} {elts : List Expr} {kk : Nat} (hK : X.K = t.K) (hg : Gl X "enumerate") (hm : X.mg "enumerate" = none) (ha : PE X a (rdE t W true fa)) (hs : starEach [a] X.env = [(false, eval a X.env)]) :
    PI X (.Tuple elts kk tpos) (.Call (.Name "enumerate" p) [a] [] pos) (rdI t W fun ev S => (fa ev S).bind fun x S1 => .of (enmD S1 x) S1) := by
  refine PI.imp (pi_enumA hg hm (pa_cons ha pa_nil hs) hs) fun σ H Q h => ?_
  obtain ⟨ev, S, g, sl, w, h⟩ := rd_bind (R1 := RepB t true) h
  refine ⟨ev, S, g, sl, w, h.mono fun v H1 ⟨ev, S1, g1, x, sl1, w1, r1, h1⟩ => ?_⟩
  obtain ⟨l, e, q⟩ := Aft.of h1
  have r := RepB.str r1
  unfold enmD at e
  split at e
  · cases e
    simp only [Rep] at r
    obtain ⟨a, xs, rfl, hq, rs⟩ := r
    refine ⟨a, xs, rfl, .inl ⟨?_, q _ _ _ (Frm.refl _ _) w1 (itR_enumL hK hq rs)⟩⟩
    rw [hK]; exact sqL_mono w1.sub hq
  · cases e
    simp only [Rep] at r
    obtain ⟨a, xs, rfl, hq, rs⟩ := r
    refine ⟨a, xs, rfl, .inr ⟨?_, q _ _ _ (Frm.refl _ _) w1 (itR_enumT hK hq rs)⟩⟩
    rw [hK]; exact sqT_mono w1.sub hq
  · split at e
    · rename_i hs
      cases e
      simp only [Rep] at r
      obtain ⟨a, rfl, hi⟩ := r
      obtain ⟨p, e1, _, xs, h1, rs⟩ := w1.cel _ _ hs
      rw [hi] at e1; cases e1
      exact ⟨a, xs, rfl, .inl ⟨.inl (.inl h1), q _ _ _ (Frm.refl _ _) w1 (itR_enumC hi)⟩⟩
    · cases e
  · cases e
theorem pi_zipX {p tpos : Pos} {elts : List Expr} {kk : Nat} (hK : X.K = t.K) (hg : Gl X "zip") (hm : X.mg "zip" = none) (ha : PE X a (rdE t W true fa)) (hb : PE X b (rdE t W true fb)) (hs : starEach [a, b] X.env = (false, eval a X.env) :: starEach [b] X.env) (hs2 : starEach [b] X.env = [(false, eval b X.env)])
    (hpl : (backTo pos (starEach [b] X.env)).any (·.1) = false) :
    PI X (.Tuple elts kk tpos) (.Call (.Name "zip" p) [a, b] [] pos) (rdI t W fun ev S => (fa ev S).bind fun x S1 => (fb ev S1).bind fun y S2 => .of (zipD x y) S2) := by
  refine PI.imp (RZ.pi_zipA hg hm (pa_cons ha (pa_cons hb pa_nil hs2) hs) hs hpl) fun σ H Q h => ?_
  obtain ⟨ev, S, g, sl, w, h⟩ := rd_bind (R1 := RepB t true) h
  refine ⟨ev, S, g, sl, w, h.mono fun v H1 ⟨ev, S1, g1, x, sl1, w1, r1, h1⟩ => ?_⟩
  refine ⟨ev, S1, g1, sl1, w1, (Aft.bind (R1 := RepB t true) h1).mono fun u H2 ⟨y, S2, g2, f2, w2, r2, h2⟩ => ?_⟩
  obtain ⟨l, e, q⟩ := Aft.of h2
  have r1' := (RepB.str r1).frm f2
  have r2' := RepB.str r2
  unfold zipD at e
  split at e
  · cases e
    simp only [Rep] at r1' r2'
    obtain ⟨a1, xs, rfl, h1, rs1⟩ := r1'
    obtain ⟨a2, ys, rfl, h2, rs2⟩ := r2'
    refine ⟨a1, a2, xs, ys, rfl, .inl ⟨?_, ?_, q _ _ _ (Frm.refl _ _) w2 (itR_zipL hK h1 rs1 h2 rs2)⟩⟩
    · rw [hK]; exact sqL_mono w2.sub h1
    · rw [hK]; exact sqL_mono w2.sub h2
  · cases e
    simp only [Rep] at r1' r2'
    obtain ⟨a1, xs, rfl, h1, rs1⟩ := r1'
    obtain ⟨a2, ys, rfl, h2, rs2⟩ := r2'
    refine ⟨a1, a2, xs, ys, rfl, .inr ⟨?_, ?_, q _ _ _ (Frm.refl _ _) w2 (itR_zipT hK h1 rs1 h2 rs2)⟩⟩
    · rw [hK]; exact sqT_mono w2.sub h1
    · rw [hK]; exact sqT_mono w2.sub h2
  · cases e
end
end Mp

set_option Elab.async false
set_option linter.all false
set_option maxRecDepth 100000
set_option autoImplicit false
set_option maxHeartbeats 1000000
namespace Mp
open PySem PySem.Spec L2
/-! ### targets -/
mutual
def slotsT : Tg → List Nat
  | .nm i => [i]
  | .tp ts => slotsTs ts
def slotsTs : List Tg → List Nat
  | [] => []
  | t :: ts => slotsT t ++ slotsTs ts
end
def OnlyAt (vs : List Nat) (σ σ2 : St) : Prop := σ2.length = σ.length ∧ ∀ j, j ∉ vs → σ2[j]? = σ[j]?
theorem OnlyAt.refl (σ : St) : OnlyAt [] σ σ := ⟨rfl, fun _ _ => rfl⟩
theorem OnlyAt.trans {a b : List Nat} {σ σ1 σ2 : St} (x : OnlyAt a σ σ1) (y : OnlyAt b σ1 σ2) : OnlyAt (a ++ b) σ σ2 :=
  ⟨y.1.trans x.1, fun j hj => (y.2 j fun h => hj (List.mem_append_right _ h)).trans (x.2 j fun h => hj (List.mem_append_left _ h))⟩
def gX (t : Tp) (tg : Tg) : TG := fun v σ H Q => ∃ ev S g d ev2, Slots t ev g σ H ∧ Wld t S g H ∧ Rep t g d v ∧ setT tg d ev = some ev2 ∧ ∀ σ2, Slots t ev2 g σ2 H → OnlyAt (slotsT tg) σ σ2 → Q σ2 H
def gXs (t : Tp) (ts : List Tg) : TGs := fun vs σ H Q => ∃ ev S g ds ev2, Slots t ev g σ H ∧ Wld t S g H ∧ Reps t g ds vs ∧ setTs ts ds ev = some ev2 ∧ ∀ σ2, Slots t ev2 g σ2 H → OnlyAt (slotsTs ts) σ σ2 → Q σ2 H
section
variable {X : Cx} {t : Tp}
theorem pg_nm {i : Nat} {x : Str} {pos : Pos} (hN : X.N.Nodup) (hi : X.N[i]? = some x) (hx : Loc X.env.scope x) (hf : X.fn x = true ∨ X.env.scope.names.lookup x = some .local) : PG X (.Name x pos) (gX t (.nm i)) := by
  refine PG.imp (pg_name hN hi hx hf) fun v σ H Q h => ?_
  obtain ⟨ev, S, g, d, ev2, sl, w, r, e, q⟩ := h
  simp only [setT] at e
  split at e
  · rename_i hl
    cases e
    refine q _ (sl.setV hl r) ⟨by simp, fun j hj => ?_⟩
    simp only [slotsT, List.mem_singleton] at hj
    rw [List.getElem?_set_ne (Ne.symm hj)]
  · cases e
theorem pg_tp {es : List Expr} {k : Nat} {pos : Pos} {ts : List Tg} (hK : X.K = t.K) (hc : X.calm = true) (h : PGs X es (gXs t ts)) (hl : es.length = ts.length) (hn : (assignEach es X.env).length = es.length) (hst : (assignEach es X.env).findIdx? (·.1) = none) :
    PG X (.Tuple es k pos) (gX t (.tp ts)) := by
  refine PG.imp (pg_tup (n := es.length) hc h hn hst) fun v σ H Q h => ?_
  obtain ⟨ev, S, g, d, ev2, sl, w, r, e, q⟩ := h
  cases d <;> simp only [setT] at e <;> try (cases e; done)
  rename_i l
  simp only [Rep] at r
  obtain ⟨a, xs, rfl, hq, rs⟩ := r
  have lt : ∀ {ts : List Tg} {l : List D} {ev ev2 : Ev}, setTs ts l ev = some ev2 → ts.length = l.length := by
    intro ts
    induction ts with
    | nil =>
      intro l ev ev2 e
      cases l with
      | nil => rfl
      | cons _ _ => simp only [setTs] at e; cases e
    | cons a ts ih =>
      intro l ev ev2 e
      cases l with
      | nil => simp only [setTs] at e; cases e
      | cons d l =>
        simp only [setTs] at e
        split at e
        · rw [List.length_cons, List.length_cons, ih e]
        · cases e
  refine ⟨a, xs, rfl, by rw [hK]; exact sqT_mono w.sub hq, by rw [← rs.len, ← lt e, hl], ev, S, g, l, ev2, sl, w, rs, e, fun σ2 s2 o => q σ2 s2 (by simpa only [slotsT] using o)⟩
theorem pgs_nilX : PGs X [] (gXs t []) := by
  refine ⟨fun pins s σ H vs us Q I r h => pgs_nil.run pins s σ H vs us Q I r ?_⟩
  obtain ⟨ev, S, g, ds, ev2, sl, w, rs, e, q⟩ := h
  cases ds with
  | nil =>
    simp only [setTs] at e; cases e
    have ev0 : vs = [] := by simpa only [Reps] using rs
    exact ⟨ev0, q σ sl (OnlyAt.refl _)⟩
  | cons _ _ => simp only [setTs] at e; cases e
theorem pgs_consX {e : Expr} {es : List Expr} {tg : Tg} {ts : List Tg} (h1 : PG X e (gX t tg)) (h2 : PGs X es (gXs t ts)) (hs : (assignEach (e :: es) X.env).map (·.2) = assign e X.env :: (assignEach es X.env).map (·.2)) : PGs X (e :: es) (gXs t (tg :: ts)) := by
  refine ⟨fun pins s σ H vs us Q I r h => (pgs_cons h1 h2 hs).run pins s σ H vs us Q I r ?_⟩
  obtain ⟨ev, S, g, ds, ev2, sl, w, rs, e, q⟩ := h
  cases ds with
  | nil => simp only [setTs] at e; cases e
  | cons d ds =>
    simp only [setTs] at e
    simp only [Reps] at rs
    obtain ⟨v, vr, rfl, r1, r2⟩ := rs
    cases z : setT tg d ev with
    | none => rw [z] at e; cases e
    | some ev1 =>
      rw [z] at e
      refine ⟨v, vr, rfl, ev, S, g, d, ev1, sl, w, r1, z, fun σ1 s1 o1 => ?_⟩
      refine ⟨ev1, S, g, ds, ev2, s1, w, r2, e, fun σ2 s2 o2 => q σ2 s2 ?_⟩
      simpa only [slotsTs] using o1.trans o2
end
/-! ### names forgotten -/
section
variable {t : Tp} {g : Gh} {H : Hp}
theorem Slots.wipe1 {ev : Ev} {σ : St} (h : Slots t ev g σ H) (v : Nat) : Slots t (ev.set v .no) g (σ.set v none) H where
  len := by simpa using h.len
  at' := fun j s e => by
    by_cases hj : v = j
    · subst hj
      by_cases hv : v < ev.length
      · rw [List.getElem?_set_self hv] at e
        cases e; trivial
      · rw [List.getElem?_eq_none (by simpa using hv)] at e; cases e
    · rw [List.getElem?_set_ne hj] at e
      rw [List.getElem?_set_ne hj]
      exact h.at' j s e
  dis := fun j k l l' p e1 e2 e3 e4 => by
    have nj : ∀ {j : Nat} {l : List D}, (ev.set v .no)[j]? = some (.ow l) → v ≠ j := fun {j l} e z => by
      subst z
      by_cases hv : v < ev.length
      · rw [List.getElem?_set_self hv] at e; cases e
      · rw [List.getElem?_eq_none (by simpa using hv)] at e; cases e
    have a1 := nj e1
    have a2 := nj e2
    rw [List.getElem?_set_ne a1] at e1 e3
    rw [List.getElem?_set_ne a2] at e2 e4
    exact h.dis j k l l' p e1 e2 e3 e4
theorem Slots.wipe {ev : Ev} {σ : St} (h : Slots t ev g σ H) : ∀ vs : List Nat, Slots t (wipeE ev vs) g (L2.wipe σ vs) H
  | [] => h
  | v :: vs => (Slots.wipe h vs).wipe1 v
theorem wipe_get (σ : St) : ∀ (vs : List Nat) (j : Nat), (L2.wipe σ vs)[j]? = if j ∈ vs then (if j < σ.length then some none else none) else σ[j]?
  | [], j => by simp [L2.wipe]
  | v :: vs, j => by
    unfold L2.wipe
    by_cases hj : v = j
    · subst hj
      rw [if_pos List.mem_cons_self]
      by_cases hv : v < σ.length
      · rw [List.getElem?_set_self (by rw [wipe_length]; exact hv), if_pos hv]
      · rw [List.getElem?_eq_none (by rw [List.length_set, wipe_length]; omega), if_neg hv]
    · rw [List.getElem?_set_ne hj, wipe_get σ vs j]
      have e : (j ∈ v :: vs) ↔ j ∈ vs := by
        constructor
        · intro h
          rcases List.mem_cons.mp h with z | z
          · exact absurd z.symm hj
          · exact z
        · exact List.mem_cons_of_mem _
      simp only [e]
theorem wipe_again {σ σ2 : St} {vs ws : List Nat} (h : OnlyAt ws (L2.wipe σ vs) σ2) (hs : ∀ j ∈ ws, j ∈ vs) : L2.wipe σ2 vs = L2.wipe σ vs := by
  apply List.ext_getElem?
  intro j
  rw [wipe_get, wipe_get]
  by_cases hj : j ∈ vs
  · rw [if_pos hj, if_pos hj, h.1, wipe_length]
  · rw [if_neg hj, if_neg hj, h.2 j (fun z => hj (hs j z)), wipe_get, if_neg hj]
end
/-! ### comprehensions -/
theorem Wld.own {t : Tp} {S : Store} {g : Gh} {H : Hp} (w : Wld t S g H) {p : Addr} {o : HO} (hn : g.G p = none) (hi : ∀ n, g.io n ≠ some p) (ht : ∀ ps, H p ≠ some (.tbl ps)) : Wld t S g (upd H p o) where
  sub := fun a u e => by rw [upd_ne (ne_of_none e hn)]; exact w.sub a u e
  cel := fun n c e => by
    obtain ⟨a, e1, e2, e3⟩ := w.cel n c e
    have ne : a ≠ p := fun z => by subst z; exact hi n e1
    refine ⟨a, e1, e2, ?_⟩
    cases c with
    | lst l => obtain ⟨xs, q, r⟩ := e3; exact ⟨xs, by rw [upd_ne ne]; exact q, r⟩
    | ins c ns vs => obtain ⟨C, dx, xs, hc, q, el, r⟩ := e3; exact ⟨C, dx, xs, hc, by rw [upd_ne ne]; exact q, el, r⟩
    | dct _ => obtain ⟨kvs, q, ek, r⟩ := e3; exact ⟨kvs, by rw [upd_ne ne]; exact q, ek, r⟩
    | gone => obtain ⟨o', q⟩ := e3; exact ⟨o', by rw [upd_ne ne]; exact q⟩
  len := w.len
  inj := w.inj
  tab := fun q hq => (w.tab q hq).mono (w.tab q hq).1 (w.tab q hq).2.1 (upd_ne (fun z => by
    obtain ⟨ps, e⟩ := (w.tab q hq).at
    rw [z] at e; exact ht _ e)) fun _ _ e => e
theorem Frm.own {g g' : Gh} {H H' : Hp} (f : Frm g H g' H') {p : Addr} {o : HO} (h : H p = none) : Frm g H g' (upd H' p o) :=
  ⟨f.leG, f.leI, fun a u e n nt => by rw [upd_ne (ne_of_none e h)]; exact f.keep a u e n nt, f.newG, f.newI, fun a e => by
    by_cases ha : a = p
    · rw [ha, upd_same]; simp
    · rw [upd_ne ha]; exact f.live a e⟩
theorem Out.bind_assoc {α β γ : Type} (o : Out α) (f : α → Store → Out β) (k : β → Store → Out γ) : (o.bind f).bind k = o.bind fun a S => (f a S).bind k := by cases o <;> rfl
theorem goLc_guard {gd : Gd} {f : D → Store → Out (Option D)} {l : List D} {S : Store} (h : gdB gd S = false) : goLc gd f l S = .bad := by
  cases l <;> simp only [goLc, h] <;> rfl
theorem goLc_noexc {gd : Gd} {f : D → Store → Out (Option D)} (hf : ∀ d S e S', f d S ≠ .exc e S') : ∀ (l : List D) (S : Store) (e : Exn) (S' : Store), goLc gd f l S ≠ .exc e S'
  | [], S, e, S', h => by
    simp only [goLc] at h
    split at h <;> cases h
  | d :: r, S, e, S', h => by
    simp only [goLc] at h
    split at h
    · cases z : f d S with
      | ok o S1 =>
        rw [z, Out.bind_ok] at h
        cases z2 : goLc gd f r S1 with
        | ok l S2 => rw [z2, Out.bind_ok] at h; cases h
        | exc e2 S2 => exact goLc_noexc hf r S1 e2 S2 z2
        | bad => rw [z2] at h; cases h
      | exc e2 S2 => exact hf d S e2 S2 z
      | bad => rw [z] at h; cases h
    · cases h
theorem Out.calm_noexc {α : Type} (o : Out α) (e : Exn) (S : Store) : o.calm ≠ .exc e S := by cases o <;> (intro h; cases h)
/-- one turn -/
def lcB (tg : Tg) (vs : List Nat) (ft : Den Bool) (fe : Den D) (ev : Ev) : D → Store → Out (Option D) := fun d S2 => match setT tg d (wipeE ev vs) with
  | some ev2 => ((ft ev2 S2).bind fun k S3 => if k then (fe ev2 S3).bind fun y S4 => .ok (some y) S4 else .ok none S3).calm
  | none => .bad
def lcF (tg : Tg) (vs : List Nat) (fi : Den (List D × Gd)) (ft : Den Bool) (fe : Den D) : Den D := fun ev S => (fi ev S).bind fun q S1 => (goLc q.2 (lcB tg vs ft fe ev) q.1 S1).bind fun r S2 => if lineB r.length then .ok (.lst r) S2 else .bad
theorem lcB_noexc {tg : Tg} {vs : List Nat} {ft : Den Bool} {fe : Den D} {ev : Ev} (d : D) (S : Store) (e : Exn) (S' : Store) : lcB tg vs ft fe ev d S ≠ .exc e S' := by
  unfold lcB
  split
  · exact Out.calm_noexc _ _ _
  · intro h; cases h
abbrev W0 : WX := fun _ _ _ _ => False
theorem Aft.bindAt {α β γ δ : Type} {t : Tp} {W : XK} {R : Hp → Gh → α → β → Prop} {R1 : Hp → Gh → γ → δ → Prop} {g0 g : Gh} {H0 H : Hp} {Q : β → Hp → Prop} {p : Out γ} {k : γ → Store → Out α} (f : Frm g0 H0 g H) (h : Aft t W R g0 H0 (p.bind k) Q) :
    Aft t W R1 g H p (fun v H1 => ∃ a S1 g1, Frm g H g1 H1 ∧ Wld t S1 g1 H1 ∧ R1 H1 g1 a v ∧ Aft t W R g0 H0 (k a S1) Q) := by
  cases p with
  | ok a S => exact fun v H' g' f w r => ⟨a, S, g', f, w, r, h⟩
  | exc e S => exact fun c d H' g' f' w r => h c d H' g' (f.trans f') w r
  | bad => exact h
def RepOp (t : Tp) : Hp → Gh → Option D → Option V → Prop := fun _ g a b => match a, b with
  | some d, some v => Rep t g d v
  | none, none => True
  | _, _ => False
section
variable {X : Cx} {t : Tp} {W : WX}
theorem lc_rd {tg : Tg} {vs : List Nat} {fi : Den (List D × Gd)} {ft : Den Bool} {fe : Den D} {σ : St} {H : Hp} {Q : VK} (hv : ∀ j ∈ slotsT tg, j ∈ vs) (h : rdF t W (lcF tg vs fi ft fe) σ H Q) :
    tLc (rdI t W fi) (gX t tg) (rdT t W0 ft) (rdE t W0 true fe) vs σ H Q := by
  obtain ⟨ev, S, g, sl, w, h⟩ := h
  unfold lcF at h
  refine ⟨ev, S, g, sl, w, (Aft.bind (R1 := ItR t) h).mono fun J H1 ⟨⟨l, gd⟩, S1, g1, f1, w1, it, h1⟩ => ?_⟩
  intro D hD
  dsimp only at it h1
  have hD0 : H D = none := by
    cases q : H D with
    | none => rfl
    | some o => exact absurd hD (f1.live D (by rw [q]; simp))
  refine ⟨fun i m Hc => ∃ (ac : List Mp.D) (acc : List V) (S' : Store) (g' : Gh), i + m = l.length ∧ Frm g1 H1 g' Hc ∧ Wld t S' g' Hc ∧ Hc D = some (.lst acc) ∧ g'.G D = none ∧ (∀ n, g'.io n ≠ some D) ∧ Reps t g' ac acc ∧
      Aft t (fun c d H' => W c d σ H') (RepF t H) g1 H1 ((goLc gd (lcB tg vs ft fe ev) (l.drop i) S').bind fun r S2 => if lineB (ac ++ r).length then .ok (.lst (ac ++ r)) S2 else .bad) Q,
    ⟨l.length, [], [], S1, g1, by omega, Frm.fresh w1 hD, w1.fresh hD, upd_same, w1.gfree hD, w1.ifree hD, .nil, by simpa using h1⟩, ?_⟩
  rintro i m Hc ⟨ac, acc, S', g', him, fr, wl, hDc, hG, hI, rs, ha⟩
  have hgd : gdB gd S' = true := by
    cases z : gdB gd S' with
    | true => rfl
    | false => rw [goLc_guard z] at ha; exact ha.elim
  obtain ⟨it1, it2⟩ := it i g' Hc S' fr.le wl hgd
  dsimp only at it1 it2
  cases hd : l.drop i with
  | nil =>
    have hil : l.length ≤ i := List.drop_eq_nil_iff.mp hd
    left
    refine ⟨it2 hil, ?_⟩
    rw [hd] at ha
    simp only [goLc, hgd, if_true, Out.bind_ok, List.append_nil] at ha
    split at ha
    · exact ha _ _ _ fr wl ⟨ac, D, acc, rfl, rfl, hD0, hDc, hG, hI, rs⟩
    · exact ha.elim
  | cons d r =>
    right
    have hdi : l[i]? = some d := by
      have : (l.drop i)[0]? = some d := by rw [hd]; rfl
      rw [List.getElem?_drop] at this
      simpa using this
    have hdr : l.drop (i + 1) = r := by
      have : (l.drop i).drop 1 = r := by rw [hd]; rfl
      rw [List.drop_drop] at this
      exact this
    have hil : i < l.length := (List.getElem?_eq_some_iff.mp hdi).1
    obtain ⟨go, yl⟩ := it1 d hdi
    refine ⟨go, _, fun H' hN => ⟨m - 1, by omega, hN⟩, fun x H' hy => ?_⟩
    obtain ⟨g2, f2, w2, rx⟩ := yl x H' hy
    have fr2 : Frm g1 H1 g2 H' := fr.trans f2
    rw [hd] at ha
    simp only [goLc, hgd, if_true] at ha
    rw [Out.bind_assoc] at ha
    have hD2 : H' D = some (.lst acc) := f2.keep _ _ hDc hI (fun _ z => nomatch z)
    have hG2 : g2.G D = none := f2.gnone hDc hG
    have hI2 : ∀ n, g2.io n ≠ some D := f2.inone hDc hI
    cases z : setT tg d (wipeE ev vs) with
    | none =>
      have el : lcB tg vs ft fe ev d S' = .bad := by simp only [lcB, z]
      rw [el] at ha; exact ha.elim
    | some ev2 =>
      have el : lcB tg vs ft fe ev d S' = ((ft ev2 S').bind fun k S3 => if k then (fe ev2 S3).bind fun y S4 => .ok (some y) S4 else .ok none S3).calm := by simp only [lcB, z]
      rw [el] at ha
      have sl2 : Slots t (wipeE ev vs) g2 (L2.wipe σ vs) H' := (((sl.frm f1).frm fr).frm f2).wipe vs
      refine ⟨wipeE ev vs, S', g2, d, ev2, sl2, w2, rx, z, fun σ2 s2 o2 => ⟨wipe_again o2 hv, ?_⟩⟩
      have hb := Aft.calm (Aft.bindAt (R1 := RepOp t) fr2 ha)
      refine ⟨ev2, S', g2, s2, w2, ?_⟩
      refine (Aft.bind (R1 := RepT) hb).mono fun k H3 ⟨k', S3, g3, f3, w3, rk, h3⟩ => ?_
      cases (show k' = k from rk)
      have hD3 : H3 D = some (.lst acc) := f3.keep _ _ hD2 hI2 (fun _ z => nomatch z)
      have hG3 : g3.G D = none := f3.gnone hD2 hG2
      have hI3 : ∀ n, g3.io n ≠ some D := f3.inone hD2 hI2
      cases k with
      | true =>
        rw [if_pos rfl] at h3 ⊢
        refine ⟨ev2, S3, g3, s2.frm f3, w3, (Aft.bind (R1 := RepB t true) h3).mono fun y H4 ⟨dy, S4, g4, f4, w4, ry, h4⟩ => ?_⟩
        have ry' := RepB.str ry
        have hD4 : H4 D = some (.lst acc) := f4.keep _ _ hD3 hI3 (fun _ z => nomatch z)
        obtain ⟨o4, S5, g5, f5, w5, r5, h5⟩ := h4 (some y) H4 g4 (Frm.refl _ _) w4 ry'
        cases o4 with
        | none => exact r5.elim
        | some dy' =>
          have hG5 : g5.G D = none := f5.gnone hD2 hG2
          have hI5 : ∀ n, g5.io n ≠ some D := f5.inone hD2 hI2
          have r5' : Rep t g5 dy' y := r5
          have rs5 : Reps t g5 ac acc := (rs.frm f2).frm f5
          rw [Out.bind_assoc] at h5
          simp only [Out.bind_ok] at h5
          have bound : acc.length < sizeLine := by
            cases q : goLc gd (lcB tg vs ft fe ev) r S5 with
            | exc e2 S6 => exact absurd q (goLc_noexc lcB_noexc _ _ _ _)
            | bad => rw [q] at h5; exact h5.elim
            | ok l6 S6 =>
              rw [q] at h5
              simp only [Out.bind_ok] at h5
              split at h5
              · rename_i hl
                have := lineB_ok hl
                simp only [List.length_append, List.length_cons] at this
                have e5 := rs5.len
                omega
              · exact h5.elim
          refine ⟨acc, hD4, bound, ac ++ [dy'], acc ++ [y], S5, g5, by omega, (fr2.trans f5).own hD, w5.own hG5 hI5 (fun _ z => by rw [hD4] at z; cases z), upd_same, hG5, hI5, rs5.append (.one r5'), ?_⟩
          rw [hdr]
          have e6 : ∀ (r' : List Mp.D), (ac ++ [dy']) ++ r' = ac ++ (dy' :: r') := fun r' => by simp
          simp only [e6]
          exact h5
      | false =>
        rw [if_neg (by decide)] at h3 ⊢
        obtain ⟨o4, S5, g5, f5, w5, r5, h5⟩ := h3 none H3 g3 (Frm.refl _ _) w3 trivial
        cases o4 with
        | some _ => exact r5.elim
        | none =>
          refine ⟨ac, acc, S5, g5, by omega, fr2.trans f5, w5, hD3, f5.gnone hD2 hG2, f5.inone hD2 hI2, (rs.frm f2).frm f5, ?_⟩
          rw [hdr]
          rw [Out.bind_assoc] at h5
          simpa only [Out.bind_ok] using h5
end
end Mp

set_option Elab.async false
set_option linter.all false
set_option maxRecDepth 100000
set_option autoImplicit false
set_option maxHeartbeats 1000000
namespace Mp
open PySem PySem.Spec L2
/-- what stands around: the program, the world, the module's names -/
structure Top where
  P : Program
  w : World
  mg : Str → Option Value
  base : Heap
/-- the names of functions, classes, constants, as the checker takes them -/
structure Tab where
  fn : Nat → Option (Str × Nat)
  cls : Nat → Option Str
  gl : List (Str × D)
  /-- class, function: the method's name, its parameters -/
  mt : Nat → Nat → Option (Str × Nat)
  /-- names of attributes -/
  ats : List Str
  /-- class, function __init__, names of keywords, where each parameter comes from -/
  kw : List (Nat × Nat × List Str × List Nat)
  /-- function, number of values by position, names of keywords, where each further parameter comes from -/
  kf : List (Nat × Nat × List Str × List Nat)
  /-- classes of exceptions, their fields; the first is the base of all -/
  ex : List (Str × List Str)
  /-- functions that are handed a lambda alone -/
  ft : Nat → Option Str
/-- where one stands in the text: the names by slot, the scope -/
structure Sc where
  N : List Str
  sc : Scope
  /-- lambdas may be made; the first parameter is a lambda that may be called -/
  lm : Bool
  tk : Bool
def spF (t : Tp) (C : Cl) (f np : Nat) : Sp := fun vs H Q E => ∃ S g ds, Wld t S g H ∧ Reps t g ds vs ∧ ds.length = np ∧ Aft t E (fun _ g d v => Rep t g d v) g H (C.fn f ds [] [] S) Q
structure FnF (t : Tp) (tb : Tab) (T : Top) (C : Cl) (k f : Nat) (nm : Str) (np : Nat) : Prop where
  ex : ∃ a fd ps, T.mg nm = some (.ref a) ∧ PySem.W.keepIn t.K (.ref a) = true ∧ Binds t.K fd ps [] ∧ ps.length = np ∧ FnOk T.P T.w t.K T.mg T.base (L2.CX T.P T.w) k a fd ps (spF t C f np) ∧
    (∀ n ks perm, (f, n, ks, perm) ∈ tb.kf → KBn t.K fd ps n ks (fun us ws => us ++ perm.filterMap (ws[·]?)) (fun vs zs => vs ++ perm.filterMap (zs[·]?)) ∧ n + ks.length = np ∧ n + perm.length = np)
structure MtF (t : Tp) (tb : Tab) (T : Top) (C : Cl) (k c f : Nat) (m : Str) (np : Nat) : Prop where
  ex : ∃ A a fd ps, t.ct c = some A ∧ Cls t.K A ∧ Meth t.K A m a ∧ Binds t.K fd ps [] ∧ ps.length = np ∧ FnOk T.P T.w t.K T.mg T.base (L2.CX T.P T.w) k a fd ps (spF t C f np) ∧ PySem.W.fnIn t.K a = true ∧
    (∀ ks perm, (c, f, ks, perm) ∈ tb.kw → KBn t.K fd ps 1 ks (fun us ws => us ++ perm.filterMap (ws[·]?)) (fun vs zs => vs ++ perm.filterMap (zs[·]?)) ∧ ks.length + 1 = np ∧ perm.length + 1 = np)
/-- what the written part says of a class of one's own, more -/
structure ClsX (t : Tp) (T : Top) (A : Addr) (nm : Str) : Prop where
  mg : T.mg nm = some (.ref A)
  makes : PySem.W.makesIn t.K A = true
  kp : PySem.W.keepIn t.K (.ref A) = true
  cls : Cls t.K A
  ntup : PySem.W.subIn t.K (.type "tuple") (.ref A) = some false
  nlst : PySem.W.subIn t.K (.type "list") (.ref A) = some false
  mo : PySem.W.mroIn t.K A (.type "object") = some true
  ne : PySem.W.findIn t.K (.ref A) "__ne__" = some (some (.builtin "object.__ne__")) ∨ PySem.W.findIn t.K (.ref A) "__eq__" = some (some (.builtin "object.__eq__"))
/-- what __init__ of an exception's class does -/
def spX (A : Addr) (ns : List Str) : Sp := fun vs H Q _ => ∃ (a : Addr) (ws : List V), vs = .ref a :: ws ∧ ws.length = ns.length ∧ H a = some (exo a A none) ∧
  ∀ (dx : Addr) (H2 : Hp), H dx = none → dx ≠ a → H2 a = some (exo a A (some dx)) → H2 dx = some (exd dx ((ns.zip ws).reverse)) → (∀ b, b ≠ a → b ≠ dx → H2 b = H b) → Q .non H2
/-- a class of exceptions -/
structure ExcF (t : Tp) (T : Top) (c : Nat) (nm : Str) (ns : List Str) : Prop where
  ex : ∃ A, t.et c = some A ∧ T.mg nm = some (.ref A) ∧ (ns ≠ [] → ∃ fI fd ps, OexC t.K A ∧ PySem.W.findIn t.K (.ref A) "__init__" = some (some (.ref fI)) ∧ PySem.W.typeIn t.K (.ref fI) = some (.type "function") ∧ Binds t.K fd ps [] ∧
    FnOk T.P T.w t.K T.mg T.base (L2.CX T.P T.w) 1 fI fd ps (spX A ns) ∧ XfC t.K A ∧ ∀ f ∈ ns, PySem.W.findIn t.K (.ref A) f = some none)
/-- what a lambda that was handed in does -/
def RDth (t : Tp) (i : ThI) (th : Store → Out D) : XK → Hp → VK → Prop := fun E H Q => ∃ S g, CapOk t g i.ev i.σ ∧ Wld t S g H ∧ Aft t E (fun _ g d v => Rep t g d v) g H (th S) Q
/-- the context of a def that is handed a lambda -/
abbrev cxT (t : Tp) (T : Top) (N : List Str) (qual : Str) (sc : Scope) (ga : Addr) (cdv : Value) (A : Around) (outer : List Env) (s : Shared) (H : Hp) (E : XK) : Cx := cxOf (L2.CX T.P T.w) T.P T.w t.K T.mg T.base N qual sc ga cdv A outer s H E
/-- it can be called there -/
def LC (t : Tp) (N : List Str) (a : Str) (Y : Cx) (i : ThI) (th : Store → Out D) : Prop := ∀ (W : WX) (pn : List (Addr × Obj)) (xe : Value → Shared → Prop) (p1 p2 : Pos), Takes (Y.tr pn xe) W →
  PE (Y.tr pn xe) (.Call (.Name a p1) [] [] p2) (fun σ H1 Q => σ[0]? = some (some (.ref i.f)) ∧ H1 i.c = some (LamX.CodeO i.c i.q) ∧ RDth t i th (fun cls d H2 => W cls d σ H2) H1 Q)
/-- a function that is handed a lambda alone -/
structure FnTF (t : Tp) (T : Top) (C : Cl) (k f : Nat) (nm : Str) : Prop where
  ex : ∃ (ga : Addr) (fd : FuncData) (N : List Str) (a qual : Str) (st : Stmt), T.mg nm = some (.ref ga) ∧ Fun t.K nm qual st ga fd ∧ FnScope N [a] (defScope st) ∧ Binds t.K fd [a] [] ∧ N[0]? = some a ∧ Vis (defScope st) a ∧ (a == ("__debug__" : Str)) = false ∧ (a == ("__classdict__" : Str)) = false ∧
    ∀ (A : Around) (outer : List Env) (s : Shared) (H : Hp) (Q : VK) (E : XK) (i : ThI) (th : Store → Out D) (S : Store) (g : Gh), Room k (A.deeper (PyProof.Rows.envOfC qual (defScope st) s.heap.objs.size ga fd.code)) →
      LC t N a (cxT t T N qual (defScope st) ga fd.code A outer s H E) i th → CapOk t g i.ev i.σ → g.G i.c = some (LamX.CodeO i.c i.q) → Wld t S g H → Aft t E (fun _ g d v => Rep t g d v) g H (C.fnT f th S) Q →
      ∃ tt, PSs (cxT t T N qual (defScope st) ga fd.code A outer s H E) (defBody st) tt ∧ tt { nx := fun _ H2 => Q .non H2, rt := Q } (L2.start N [.ref i.f]) H
/-- names of the language itself that the program leaves alone -/
def bnames : List Str := ["len", "all", "any", "sum", "tuple", "list", "int", "abs", "range", "enumerate", "zip", "isinstance", "str", "bool"]
structure Glob (t : Tp) (tb : Tab) (T : Top) (C : Cl) (k : Nat) : Prop where
  top : TopOk t
  fn : ∀ f nm np, tb.fn f = some (nm, np) → FnF t tb T C k f nm np
  cls : ∀ c nm, tb.cls c = some nm → ∃ A, t.ct c = some A ∧ ClsX t T A nm
  mt : ∀ c f m np, tb.mt c f = some (m, np) → MtF t tb T C k c f m np
  ats : ∀ c A f, t.ct c = some A → f ∈ tb.ats → Cls t.K A ∧ NoAttr t.K A f
  gl : ∀ x d, tb.gl.lookup x = some d → ∃ v u, T.mg x = some u ∧ RelV v u ∧ ∀ g, Rep t g d v
  bn : ∀ x ∈ bnames, T.mg x = none
  ex : ∀ c nm ns, tb.ex[c]? = some (nm, ns) → ExcF t T c nm ns
  exm : ∀ c c' A A', t.et c = some A → t.et c' = some A' → PySem.W.exmOne t.K (.ref A) (.ref A') = some (c == c' || c' == 0)
  exf : ∀ c A f, t.et c = some A → (tb.ex.any fun p => p.2.contains f) = true → XfC t.K A ∧ PySem.W.findIn t.K (.ref A) f = some none
  k2 : 2 ≤ k
  tbu : ∀ p ∈ t.tabs, ∀ q ∈ t.tabs, p.1 = q.1 → p.2 = q.2
  ft : ∀ f nm, tb.ft f = some nm → FnTF t T C k f nm
structure Ctx (t : Tp) (tb : Tab) (T : Top) (C : Cl) (k : Nat) (W : WX) (s : Sc) (X : Cx) : Prop where
  hK : X.K = t.K
  hP : X.prog = T.P
  hw : X.w = T.w
  hg : X.mg = T.mg
  hb : X.base = T.base
  hN : X.N = s.N
  nd : s.N.Nodup
  kd : ∀ x q, s.sc.names.lookup x = some q → X.env.kindOf x = some q ∨ (q = .free ∧ X.env.kindOf x = some .cell)
  sk : X.env.scope.kind = .function
  calm : X.calm = true
  room : Room (k + 1) X.A
  own : PassesOwn (model X.prog X.w) X.A X.env X.xe
  tk : Takes X W
  st : ∀ x, s.sc.names.lookup x = some .cell → X.fn x = true
  lm : s.lm = true → ∃ c P, X.env.code = .ref c ∧ (P, X.env.qual ++ "<lambda>") ∈ t.tabs ∧ LamX.TabB X.base X.mg c P ∧ Room (k + 3) X.A
  thk : s.tk = true → ∀ (W2 : WX) (pn : List (Addr × Obj)) (xe : Value → Shared → Prop), Takes (X.tr pn xe) W2 → ∀ (y : Str) (p1 p2 : Pos), s.N[0]? = some y →
    PE (X.tr pn xe) (.Call (.Name y p1) [] [] p2) (rdE t W2 true fun ev S => match ev[0]? with | some Sl.th => C.th S | _ => Out.bad)
theorem takesW0 {X : Cx} : Takes X W0 := fun _ _ ⟨_, _, _, _, _, _, _, _, _, _, _, _, _, _, _, _, w⟩ => w.elim
theorem relabel_kd {scope : Scope} {env : Env} {x : Str} {q : NameKind} (h : scope.names.lookup x = some q) : (relabel scope env).names.lookup x = some q ∨ (q = .free ∧ (relabel scope env).names.lookup x = some .cell) := by
  have go : ∀ (names : List (Str × NameKind)), names.lookup x = some q → (names.map fun (n, k) => if (k == .free && env.scope.kind == .function && env.kindOf n == some .cell) then (n, .cell) else (n, k)).lookup x = some q ∨ (q = .free ∧ (names.map fun (n, k) => if (k == .free && env.scope.kind == .function && env.kindOf n == some .cell) then (n, .cell) else (n, k)).lookup x = some .cell) := by
    intro names
    induction names with
    | nil => intro h; simp at h
    | cons p r ih =>
      obtain ⟨n, k⟩ := p
      intro h
      rw [List.map_cons]
      cases hx : x == n with
      | true =>
        simp only [List.lookup_cons, hx] at h
        cases h
        by_cases hc : (q == NameKind.free && env.scope.kind == .function && env.kindOf n == some .cell) = true
        · right
          have hk : q = .free := by
            simp only [Bool.and_eq_true] at hc
            exact eq_of_beq hc.1.1
          exact ⟨hk, by simp only [if_pos hc, List.lookup_cons, hx]⟩
        · left
          simp only [if_neg hc, List.lookup_cons, hx]
      | false =>
        simp only [List.lookup_cons, hx] at h
        have := ih h
        by_cases hc : (k == NameKind.free && env.scope.kind == .function && env.kindOf n == some .cell) = true
        · simpa only [if_pos hc, List.lookup_cons, hx] using this
        · simpa only [if_neg hc, List.lookup_cons, hx] using this
  exact go _ h
section
variable {t : Tp} {tb : Tab} {T : Top} {C : Cl} {k : Nat} {W : WX} {s : Sc} {X : Cx}
/-- in a comprehension's block -/
theorem Ctx.blk (c : Ctx t tb T C k W s X) {scope : Scope} (hk : scope.kind = .function) (sh : Shared) (H : Hp) (A : Addr) (cl : List (Str × Addr)) (fp : List Addr) :
    Ctx t tb T C k W0 ⟨s.N, scope, false, false⟩ (X.blk sh H scope (compEnvC scope cl A X.env) fp) where
  hK := c.hK
  hP := c.hP
  hw := c.hw
  hg := c.hg
  hb := c.hb
  hN := c.hN
  nd := c.nd
  kd := fun x q h => relabel_kd h
  sk := hk
  calm := c.calm
  room := c.room
  own := PassesOwn.never
  tk := takesW0
  st := fun x h => by
    show (scope.names.lookup x == some .cell) = true
    have h' : scope.names.lookup x = some .cell := h
    rw [h']; rfl
  lm := fun h => nomatch h
  thk := fun h => nomatch h
theorem Ctx.un (c : Ctx t tb T C k W s X) : X.A.units + 65 < cLine := by have := c.room.un; omega
def kindB (s : Sc) (x : Str) (q : NameKind) : Bool := s.sc.names.lookup x == some q
theorem Ctx.gl (c : Ctx t tb T C k W s X) {x : Str} (h : kindB s x .globalImplicit = true) : Gl X x := by
  have := eq_of_beq h
  rcases c.kd x _ this with z | z
  · exact z
  · cases z.1
def slotB (s : Sc) (i : Nat) (x : Str) : Bool := (s.N[i]? == some x) && (kindB s x .local || kindB s x .cell || kindB s x .free) && !(x == ("__debug__" : Str)) && !(x == ("__classdict__" : Str))
theorem Ctx.slot (c : Ctx t tb T C k W s X) {i : Nat} {x : Str} (h : slotB s i x = true) : X.N[i]? = some x ∧ Vis X.env.scope x ∧ (x == ("__debug__" : Str)) = false ∧ (x == ("__classdict__" : Str)) = false := by
  unfold slotB at h
  simp only [Bool.and_eq_true, Bool.or_eq_true, Bool.not_eq_true'] at h
  obtain ⟨⟨⟨h1, h2⟩, h3⟩, h4⟩ := h
  refine ⟨by rw [c.hN]; exact eq_of_beq h1, ?_, h3, h4⟩
  rcases h2 with (h2 | h2) | h2
  · rcases c.kd x _ (eq_of_beq h2) with z | z
    · exact .inl z
    · cases z.1
  · rcases c.kd x _ (eq_of_beq h2) with z | z
    · exact .inr (.inl z)
    · cases z.1
  · rcases c.kd x _ (eq_of_beq h2) with z | z
    · exact .inr (.inr z)
    · exact .inr (.inl z.2)
def storeB (s : Sc) (i : Nat) (x : Str) : Bool := (s.N[i]? == some x) && (kindB s x .local || kindB s x .cell)
theorem Ctx.store (c : Ctx t tb T C k W s X) {i : Nat} {x : Str} (h : storeB s i x = true) : X.N[i]? = some x ∧ Loc X.env.scope x ∧ (X.fn x = true ∨ X.env.scope.names.lookup x = some .local) := by
  unfold storeB at h
  simp only [Bool.and_eq_true, Bool.or_eq_true] at h
  obtain ⟨h1, h2⟩ := h
  refine ⟨by rw [c.hN]; exact eq_of_beq h1, ?_⟩
  rcases h2 with h2 | h2
  · rcases c.kd x _ (eq_of_beq h2) with z | z
    · exact ⟨.inl z, .inr z⟩
    · cases z.1
  · rcases c.kd x _ (eq_of_beq h2) with z | z
    · exact ⟨.inr z, .inl (c.st x (eq_of_beq h2))⟩
    · cases z.1
theorem Ctx.ndX (c : Ctx t tb T C k W s X) : X.N.Nodup := by rw [c.hN]; exact c.nd
end
/-! ### names, constants, isinstance, calls -/
section
variable {t : Tp} {tb : Tab} {T : Top} {C : Cl} {k : Nat} {W : WX} {s : Sc} {X : Cx} {pos : Pos} {a : Expr} {fa : Den D} {ba : Bool}
theorem pe_varX (c : Ctx t tb T C k W s X) {i : Nat} {x : Str} (h : slotB s i x = true) : PE X (.Name x pos) (rdE t W true fun ev S => .of (getS ev i) S) := by
  obtain ⟨h1, h2, h3, h4⟩ := c.slot h
  refine PE.imp (pe_var h1 h2 h3 h4) fun σ H Q h => ?_
  obtain ⟨ev, S, g, sl, w, h⟩ := h
  obtain ⟨d, e, q⟩ := Aft.of h
  obtain ⟨v, e1, r⟩ := sl.get e
  exact ⟨v, e1, q _ _ _ (Frm.refl _ _) w (.of r)⟩
theorem pe_pkX (c : Ctx t tb T C k W s X) {i : Nat} {x : Str} (h : slotB s i x = true) : PE X (.Name x pos) (rdE t W false fun ev S => .of (peekS ev i) S) := by
  obtain ⟨h1, h2, h3, h4⟩ := c.slot h
  refine PE.imp (pe_var h1 h2 h3 h4) fun σ H Q h => ?_
  obtain ⟨ev, S, g, sl, w, h⟩ := h
  obtain ⟨d, e, q⟩ := Aft.of h
  obtain ⟨v, e1, r⟩ := sl.peek e
  exact ⟨v, e1, q _ _ _ (Frm.refl _ _) w (by simpa [RepB] using r)⟩
theorem pe_conX {c : Const} {n : Nat} : PE X (.Constant c n pos) (rdE t W true fun _ S => .of (conD c) S) := by
  refine ⟨fun pins s σ H Q I h => ?_⟩
  obtain ⟨ev, S, g, sl, w, h⟩ := h
  obtain ⟨d, e, q⟩ := Aft.of h
  have fin : ∀ {v : V}, Rep t g d v → Q v H := fun r => q _ _ _ (Frm.refl _ _) w (.of r)
  unfold conD at e
  split at e
  · cases e; exact pe_non.run pins s σ H Q I (fin (by simp only [Rep]))
  · cases e; exact pe_bl.run pins s σ H Q I (fin (by simp only [Rep]))
  · cases e; exact pe_int.run pins s σ H Q I (fin (by simp only [Rep]))
  · cases e; exact pe_str.run pins s σ H Q I (fin (by simp only [Rep]))
  · cases e
theorem pe_gloX (c : Ctx t tb T C k W s X) (G : Glob t tb T C k) {x : Str} {d : D} (hk : kindB s x .globalImplicit = true) (hd : (x == ("__debug__" : Str)) = false) (h : tb.gl.lookup x = some d) : PE X (.Name x pos) (rdE t W true fun _ S => .ok d S) := by
  obtain ⟨v, u, hm, r, rp⟩ := G.gl x d h
  rw [← c.hg] at hm
  refine PE.imp (pe_glob (c.gl hk) hm r hd) fun σ H Q h => ?_
  obtain ⟨ev, S, g, sl, w, h⟩ := h
  exact h _ _ _ (Frm.refl _ _) w (.of (rp g))
/-- the name of a type -/
def tyName (tb : Tab) : Ty → Option Str
  | .int => some "int"
  | .bool => some "bool"
  | .str => some "str"
  | .list => some "list"
  | .tuple => some "tuple"
  | .own c => tb.cls c
theorem pe_ty (c : Ctx t tb T C k W s X) (G : Glob t tb T C k) {y : Ty} {n : Str} {p : Pos} (hn : tyName tb y = some n) (hk : kindB s n .globalImplicit = true) (hd : (n == ("__debug__" : Str)) = false) : ∃ v u, PE X (.Name n p) (tC v) ∧ ClsV v u ∧ TyVal t y u := by
  have hgl := c.gl hk
  cases y with
  | own cc =>
    obtain ⟨A, e1, e2⟩ := G.cls cc n hn
    have e2' := e2.mg
    rw [← c.hg] at e2'
    exact ⟨.ref A, .ref A, pe_glob hgl e2' rfl hd, .own A, A, e1, rfl⟩
  | int => cases hn; exact ⟨.ty "int", .type "int", pe_bltn hgl (by rw [c.hg]; exact G.bn _ (by decide)) (by decide +kernel) rfl, .ty _, rfl⟩
  | bool => cases hn; exact ⟨.ty "bool", .type "bool", pe_bltn hgl (by rw [c.hg]; exact G.bn _ (by decide)) (by decide +kernel) rfl, .ty _, rfl⟩
  | str => cases hn; exact ⟨.ty "str", .type "str", pe_bltn hgl (by rw [c.hg]; exact G.bn _ (by decide)) (by decide +kernel) rfl, .ty _, rfl⟩
  | list => cases hn; exact ⟨.ty "list", .type "list", pe_bltn hgl (by rw [c.hg]; exact G.bn _ (by decide)) (by decide +kernel) rfl, .ty _, rfl⟩
  | tuple => cases hn; exact ⟨.ty "tuple", .type "tuple", pe_bltn hgl (by rw [c.hg]; exact G.bn _ (by decide)) (by decide +kernel) rfl, .ty _, rfl⟩
theorem isi_at {g : Gh} {H : Hp} {S : Store} (TO : TopOk t) (w : Wld t S g H) {d : D} {x : V} (r : RepW t H g d x) (ho : okI S d = true) : ∃ u, TyX t.K H x u ∧ ∀ y v, TyVal t y v → PySem.W.kitOne t.K u v = some (isD S d y) := by
  refine isi_of TO w d x r ho (fun n e => ?_)
  · subst e
    obtain ⟨a, _, hi⟩ := r.cel
    have := w.len n a hi
    exact ⟨S[n], by simp [this]⟩
theorem star1 {e : Expr} {es : List Expr} {env : Env} (h : ∀ v p, e ≠ .Starred v p) : starEach (e :: es) env = (false, eval e env) :: starEach es env := by
  cases e <;> first | rfl | exact absurd rfl (h _ _)
theorem star1s {e : Expr} {env : Env} (h : ∀ v p, e ≠ .Starred v p) : starEach [e] env = [(false, eval e env)] := star1 h
theorem starN {env : Env} {pos : Pos} : ∀ {es : List Expr}, (∀ e ∈ es, ∀ v p, e ≠ .Starred v p) → (backTo pos (starEach es env)).any (·.1) = false
  | [], _ => rfl
  | e :: es, h => by
    rw [star1 (h e List.mem_cons_self)]
    have := starN (env := env) (pos := pos) (es := es) fun e he => h e (List.mem_cons_of_mem _ he)
    unfold backTo at this ⊢
    rw [List.map_cons, List.any_cons, this]
    rfl
/-- isinstance(a, T) -/
theorem pe_isi1X (c : Ctx t tb T C k W s X) (G : Glob t tb T C k) {y : Ty} {n : Str} {p p2 : Pos} (hi : kindB s "isinstance" .globalImplicit = true) (hn : tyName tb y = some n) (hk : kindB s n .globalImplicit = true) (hd : (n == ("__debug__" : Str)) = false)
    (ha : PE X a (rdE t W ba fa)) (hs : ∀ v p, a ≠ .Starred v p) : PE X (.Call (.Name "isinstance" p) [a, .Name n p2] [] pos) (rdE t W true fun ev S => (fa ev S).bind fun x S1 => if okI S1 x then .ok (.bl ([y].any (isD S1 x))) S1 else .bad) := by
  obtain ⟨v, u, hp, hc, ht⟩ := pe_ty c G (p := p2) hn hk hd
  refine PE.imp (pe_callB call_isi (c.gl hi) (by rw [c.hg]; exact G.bn _ (by decide)) (by decide +kernel) (pa_cons ha (pa_cons hp pa_nil (star1 fun _ _ z => nomatch z)) (star1 hs)) (by decide) (by decide) (star1 hs) (starN (by simp))) fun σ H Q h => ?_
  obtain ⟨ev, S, g, sl, w, h⟩ := rd_bind (R1 := RepB t ba) h
  refine ⟨ev, S, g, sl, w, h.mono fun x H1 ⟨ev, S1, g1, d, sl1, w1, r1, h1⟩ => ?_⟩
  split at h1
  case isFalse => exact h1.elim
  rename_i ho
  obtain ⟨u', hty, hk'⟩ := isi_at G.top w1 (RepB.weak r1) ho
  refine ⟨x, v, u', u, isD S1 d y, rfl, hc, by rw [c.hK]; exact hty, by rw [c.hK]; exact hk' y u ht, ?_⟩
  exact h1 _ _ _ (Frm.refl _ _) w1 (.of (by simp only [Rep]; simp))
/-- isinstance(a, (T1, T2, ..)) -/
def TysOk (t : Tp) (tb : Tab) (X : Cx) : List Ty → List Expr → Prop
  | [], [] => True
  | y :: ys, e :: es => (∃ v u, PE X e (tC v) ∧ ClsV v u ∧ TyVal t y u) ∧ (∀ v p, e ≠ .Starred v p) ∧ TysOk t tb X ys es
  | _, _ => False
theorem tys_pa : ∀ {ys : List Ty} {es : List Expr}, TysOk t tb X ys es → ∃ (vs : List V) (us : List Value), PA X es (fun _ H Q => Q vs H) ∧ Paired ClsV vs us ∧ vs.length = ys.length ∧ ∀ (K : PySem.W.Frag) (u : Value) (f : Ty → Bool), (∀ y v, TyVal t y v → PySem.W.kitOne K u v = some (f y)) → PySem.W.kitAny K u us = some (ys.any f)
  | [], [], _ => ⟨[], [], pa_nil, .nil, rfl, fun _ _ _ _ => rfl⟩
  | y :: ys, e :: es, h => by
    obtain ⟨⟨v, u, h1, h2, h3⟩, hs, hr⟩ := h
    obtain ⟨vs, us, p1, p2, p3, p4⟩ := tys_pa hr
    refine ⟨v :: vs, u :: us, PA.imp (pa_cons h1 p1 (star1 hs)) fun σ H Q q => q, .cons h2 p2, by simp [p3], fun K u' f hf => ?_⟩
    refine kitAny_cons (b := f y) (hf y u h3) (fun e => ?_) (fun e => ?_)
    · rw [List.any_cons, e, Bool.false_or]; exact p4 K u' f hf
    · rw [List.any_cons, e, Bool.true_or]
  | [], _ :: _, h => h.elim
  | _ :: _, [], h => h.elim
theorem pe_isiNX (c : Ctx t tb T C k W s X) (G : Glob t tb T C k) {ys : List Ty} {es : List Expr} {n : Nat} {p p2 : Pos} (hi : kindB s "isinstance" .globalImplicit = true) (hl : ys.length ≤ 100) (ht : TysOk t tb X ys es)
    (ha : PE X a (rdE t W ba fa)) (hs : ∀ v p, a ≠ .Starred v p) : PE X (.Call (.Name "isinstance" p) [a, .Tuple es n p2] [] pos) (rdE t W true fun ev S => (fa ev S).bind fun x S1 => if okI S1 x then .ok (.bl (ys.any (isD S1 x))) S1 else .bad) := by
  obtain ⟨vs, us, p1, p2', p3, p4⟩ := tys_pa ht
  refine PE.imp (pe_callB call_isiT (c.gl hi) (by rw [c.hg]; exact G.bn _ (by decide)) (by decide +kernel) (pa_cons ha (pa_cons (pe_tup p1) pa_nil (star1 fun _ _ z => nomatch z)) (star1 hs)) (by decide) (by decide) (star1 hs) (starN (by simp))) fun σ H Q h => ?_
  obtain ⟨ev, S, g, sl, w, h⟩ := rd_bind (R1 := RepB t ba) h
  refine ⟨ev, S, g, sl, w, h.mono fun x H1 ⟨ev, S1, g1, d, sl1, w1, r1, h1⟩ => ?_⟩
  split at h1
  case isFalse => exact h1.elim
  rename_i ho
  refine ⟨by rw [sizeLine_eq]; omega, fun p hp => ?_⟩
  obtain ⟨u', hty, hk'⟩ := isi_at G.top (w1.fresh (o := .tup vs) hp) ((RepB.weak r1).frm (Frm.fresh w1 hp)) ho
  refine ⟨x, p, vs, u', us, ys.any (isD S1 d), rfl, upd_same, p2', by rw [c.hK]; exact hty, by rw [c.hK]; exact p4 _ _ _ hk', ?_⟩
  exact h1 _ _ _ (Frm.fresh w1 hp) (w1.fresh hp) (.of (by simp only [Rep]))
/-- f(a, ..) -/
theorem pe_callX (c : Ctx t tb T C k W s X) (G : Glob t tb T C k) {f np : Nat} {nm : Str} {es : List Expr} {bs : List Bool} {fs : Den (List D)} {p : Pos} (hf : tb.fn f = some (nm, np)) (hk : kindB s nm .globalImplicit = true) (hd : (nm == ("__debug__" : Str)) = false) (hb : bs.all id = true) (hn : bs.length = np)
    (ha : PA X (a :: es) (rdA t W bs fs)) (hs : ∀ e ∈ a :: es, ∀ v p, e ≠ .Starred v p) : PE X (.Call (.Name nm p) (a :: es) [] pos) (rdE t W true fun ev S => (fs ev S).bind fun l S1 => C.fn f l [] [] S1) := by
  obtain ⟨A, fd, ps, h1, h2, h3, h4, h5, _⟩ := (G.fn f nm np hf).ex
  have F : FnOk X.prog X.w X.K X.mg X.base (L2.CX X.prog X.w) k A fd ps (spF t C f np) := by
    rw [c.hP, c.hw, c.hK, c.hg, c.hb]; exact h5
  refine PE.imp (pe_callSD F (c.room.mono (Nat.le_succ k)) (c.gl hk) (by rw [c.hg]; exact h1) (by rw [c.hK]; exact h2) (by rw [c.hK]; exact h3) (.nil : Vals [] []) (fun σ => passAt c.tk σ) ha hd (star1 (hs a List.mem_cons_self)) (starN fun e he => hs e (List.mem_cons_of_mem _ he))) fun σ H Q h => ?_
  obtain ⟨ev, S, g, sl, w, h⟩ := rd_bind (R1 := fun H g ds xs => RepsX t H g bs ds xs) h
  refine ⟨ev, S, g, sl, w, h.mono fun v H1 ⟨ev, S1, g1, l, sl1, w1, r1, h1⟩ => ?_⟩
  refine ⟨S1, g1, l, w1, by rw [List.append_nil]; exact RepsX.strong hb r1, by rw [← (RepsX.len r1).1]; exact hn, ?_⟩
  cases z : C.fn f l [] [] S1 with
  | ok d S2 => rw [z] at h1; exact fun v H' g' f' w' r => h1 v H' g' f' w' (.of r)
  | exc e S2 => rw [z] at h1; exact h1
  | bad => rw [z] at h1; exact h1
end
end Mp

set_option Elab.async false
set_option linter.all false
set_option maxRecDepth 100000
set_option autoImplicit false
set_option maxHeartbeats 1000000
/-! {k: v, ..}.get(x, y) -/
namespace Mp
open PySem PySem.Spec L2
/-- one after another -/
def evF : List (Den D) → Den (List D)
  | [], _, S => .ok [] S
  | f :: fs, ev, S => (f ev S).bind fun x S1 => (evF fs ev S1).bind fun l S2 => .ok (x :: l) S2
section
variable {X : Cx} {t : Tp} {W : WX}
theorem tPairs_rd {σ : St} : ∀ (ks : List Str) (fs : List (Den D)), ks.length = fs.length → ∀ {H : Hp} {Q : List V → Hp → Prop} {Q' : List (V × V) → Hp → Prop}, rd t W (fun _ g ds vs => Reps t g ds vs) (evF fs) σ H Q →
    (∀ vs H', vs.length = ks.length → Q vs H' → Q' ((ks.zip vs).map (fun p => (V.str p.1, p.2))) H') → tPairs (List.zipWith (fun k f => (tC (.str k), rdE t W true f)) ks fs) σ H Q'
  | [], [], _, H, Q, Q', h, q => by
    obtain ⟨ev, S, g, sl, w, h⟩ := h
    exact q [] _ rfl (h _ _ _ (Frm.refl _ _) w .nil)
  | [], _ :: _, e, _, _, _, _, _ => by simp at e
  | _ :: _, [], e, _, _, _, _, _ => by simp at e
  | k :: ks, f :: fs, e, H, Q, Q', h, q => by
    have h' : rd t W (fun _ g ds vs => Reps t g ds vs) (fun ev S => (f ev S).bind fun x S1 => (evF fs ev S1).bind fun l S2 => .ok (x :: l) S2) σ H Q := h
    obtain ⟨ev, S, g, sl, w, h⟩ := rd_bind (R1 := RepB t true) h'
    show tPairs ((tC (.str k), rdE t W true f) :: List.zipWith (fun k f => (tC (.str k), rdE t W true f)) ks fs) σ H _
    refine ⟨ev, S, g, sl, w, h.mono fun v H1 ⟨ev1, S1, g1, x, sl1, w1, r1, h1⟩ => ?_⟩
    exact tPairs_rd (σ := σ) ks fs (by simpa using e) (H := H1) (Q := fun vs H' => Q (v :: vs) H') ⟨ev1, S1, g1, sl1, w1, (Aft.bind (R1 := fun _ g ds vs => Reps t g ds vs) h1).mono fun vs H2 ⟨l, S2, g2, f2, w2, r2, h2⟩ =>
      h2 _ _ _ (Frm.refl _ _) w2 (.cons (RepB.frm f2 r1).str r2)⟩ fun vs H' hl hq => q (v :: vs) H' (by simp [hl]) hq
theorem dlk_rel {g : Gh} (z : Str) : ∀ (ks : List Str) (ds : List D) (vs : List V), Reps t g ds vs → ∀ (o : Option D) (kvs : List (Key × V)), (∀ d, o = some d → ∃ v, valV kvs (.inr z) = some v ∧ Rep t g d v) → (o = none → valV kvs (.inr z) = none) →
    (∀ d, dlk o (ks.zip ds) z = some d → ∃ v, valV (mergeK kvs ((ks.zip vs).map fun p => (Sum.inr p.1, p.2))) (.inr z) = some v ∧ Rep t g d v) ∧ (dlk o (ks.zip ds) z = none → valV (mergeK kvs ((ks.zip vs).map fun p => (Sum.inr p.1, p.2))) (.inr z) = none)
  | [], ds, vs, r, o, kvs, h1, h2 => by
    simp only [List.zip_nil_left, List.map_nil, dlk, mergeK, List.foldl_nil]
    exact ⟨h1, h2⟩
  | k :: ks, [], vs, r, o, kvs, h1, h2 => by
    simp only [Reps] at r
    subst r
    simp only [List.zip_nil_right, List.map_nil, dlk, mergeK, List.foldl_nil]
    exact ⟨h1, h2⟩
  | k :: ks, d :: ds, vs, r, o, kvs, h1, h2 => by
    simp only [Reps] at r
    obtain ⟨x, vs', rfl, rx, r⟩ := r
    have e : mergeK kvs (((k :: ks).zip (x :: vs')).map fun p => ((Sum.inr p.1 : Key), p.2)) = mergeK (putK kvs (.inr k) x) ((ks.zip vs').map fun p => (Sum.inr p.1, p.2)) := rfl
    rw [e]
    simp only [List.zip_cons_cons, dlk]
    refine dlk_rel z ks ds vs' r _ _ (fun d' hd => ?_) (fun hd => ?_)
    · rw [valV_put]
      by_cases hz : z = k
      · subst hz
        rw [if_pos rfl] at hd ⊢
        cases hd
        exact ⟨x, rfl, rx⟩
      · rw [if_neg hz] at hd
        rw [if_neg (by intro q; cases q; exact hz rfl)]
        exact h1 d' hd
    · rw [valV_put]
      by_cases hz : z = k
      · subst hz
        rw [if_pos rfl] at hd; cases hd
      · rw [if_neg hz] at hd
        rw [if_neg (by intro q; cases q; exact hz rfl)]
        exact h2 hd
theorem pe_dgtX {e f : Expr} {keys : List (Option Expr)} {values : List Expr} {ks : List Str} {fs : List (Den D)} {fa fd : Den D} {ba : Bool} {dp ap cp : Pos} (hu : X.A.units + 65 < cLine) (hp : PPs X dp keys values (List.zipWith (fun k f => (tC (.str k), rdE t W true f)) ks fs))
    (hall : keys.all (·.isSome) = true) (hl : keys.length = values.length) (h0 : keys ≠ []) (h15 : keys.length ≤ 15) (hk : ks.length = keys.length) (hf : ks.length = fs.length)
    (ha : PE X e (rdE t W ba fa)) (hd : PE X f (rdE t W true fd)) (he : ∀ v p, e ≠ .Starred v p) (hf' : ∀ v p, f ≠ .Starred v p) (hln : (ap.endLine == cp.line) = true) :
    PE X (.Call (.Attribute (.Dict keys values dp) "get" ap) [e, f] [] cp) (rdE t W true fun ev S => (evF fs ev S).bind fun l S1 => (fa ev S1).bind fun x S2 => (fd ev S2).bind fun y S3 => .of (dgtD ks l x y) S3) := by
  have tr : backTo cp (starEach [e, f] X.env) = [(false, eval e X.env), (false, eval f X.env)] := by rw [star1 he, star1s hf']; rfl
  have m : M2 X (.Dict keys values dp) "get" ap e f cp := ⟨rfl, by rw [tr]; rfl, hln, tr⟩
  refine PE.imp (pe_dget2 (by omega) (pe_disp hp hall hl h0 h15) ha hd m) fun σ H Q h => ?_
  obtain ⟨ev, S, g, sl, w, h⟩ := h
  intro p hpn
  have f0 : Frm g H g (upd H p (.dK [])) := Frm.fresh w hpn
  have g0 := w.gfree hpn
  have i0 := w.ifree hpn
  refine tPairs_rd ks fs hf ⟨ev, S, g, sl.frm f0, w.fresh hpn, Aft.bindAt (R1 := fun _ g ds vs => Reps t g ds vs) f0 h⟩ fun vs H2 hvl ⟨l, S2, g2, f2, w2, r2, h2⟩ => ?_
  have hp2 : H2 p = some (.dK []) := f2.keep p _ upd_same i0 (fun _ z => nomatch z)
  refine ⟨hp2, (ks.zip vs).map fun q => (Sum.inr q.1, q.2), by rw [List.map_map]; rfl, by simp; omega, p, rfl, .inl ⟨_, .inl upd_same⟩, ?_⟩
  generalize hkv : mergeK [] ((ks.zip vs).map fun q => ((Sum.inr q.1 : Key), q.2)) = kvs
  have g2n : g2.G p = none := f2.gnone upd_same g0
  have i2n : ∀ n, g2.io n ≠ some p := f2.inone upd_same i0
  have f3 : Frm g H g2 (upd H2 p (.dK kvs)) := Frm.own (f0.trans f2) hpn
  have w3 := w2.own (o := .dK kvs) g2n i2n (fun _ z => by rw [hp2] at z; cases z)
  refine ⟨ev, S2, g2, sl.frm f3, w3, (Aft.bindAt (R1 := RepB t ba) f3 h2).mono fun x H4 ⟨dx, S4, g4, f4, w4, r4, h4⟩ => ?_⟩
  have hp4 : H4 p = some (.dK kvs) := f4.keep p _ upd_same i2n (fun _ z => nomatch z)
  have i4n : ∀ n, g4.io n ≠ some p := f4.inone upd_same i2n
  refine ⟨ev, S4, g4, sl.frm (f3.trans f4), w4, (Aft.bindAt (R1 := RepB t true) (f3.trans f4) h4).mono fun y H5 ⟨dy, S5, g5, f5, w5, r5, h5⟩ => ?_⟩
  have hp5 : H5 p = some (.dK kvs) := f5.keep p _ hp4 i4n (fun _ z => nomatch z)
  obtain ⟨d, e1, q⟩ := Aft.of h5
  obtain ⟨z, rfl⟩ : ∃ z, dx = .str z := by
    cases dx with
    | str z => exact ⟨z, rfl⟩
    | _ => simp only [dgtD] at e1; cases e1
  simp only [dgtD] at e1
  cases e1
  have hx : x = .str z := (RepB.weak r4).str
  subst hx
  refine ⟨valV kvs (.inr z), DGet.k (k := Sum.inr z) hp5, q _ _ _ (f3.trans (f4.trans f5)) w5 (.of ?_)⟩
  have rr := dlk_rel (t := t) z ks l vs r2 none [] (fun d hd => by cases hd) (fun _ => rfl)
  rw [hkv] at rr
  cases hq : dlk none (ks.zip l) z with
  | none => rw [rr.2 hq]; exact r5.str
  | some d =>
    obtain ⟨v, e2, rv⟩ := rr.1 d hq
    rw [e2]; exact rv.frm (f4.trans f5)
/-- {k: v, ..} -/
theorem pe_dicX {keys : List (Option Expr)} {values : List Expr} {ks : List Str} {fs : List (Den D)} {dp : Pos} (hp : PPs X dp keys values (List.zipWith (fun k f => (tC (.str k), rdE t W true f)) ks fs))
    (hall : keys.all (·.isSome) = true) (hl : keys.length = values.length) (h15 : keys.length ≤ 15) (hk : ks.length = keys.length) (hf : ks.length = fs.length) :
    PE X (.Dict keys values dp) (rdE t W true fun ev S => (evF fs ev S).bind fun _ S1 => .ok .dic S1) := by
  by_cases h0 : keys = []
  · subst h0
    have hv : values = [] := List.length_eq_zero_iff.mp hl.symm
    subst hv
    refine PE.imp pe_dnewK fun σ H Q h => ?_
    obtain ⟨ev, S, g, sl, w, h⟩ := h
    intro p hpn
    have ek : ks = [] := List.length_eq_zero_iff.mp hk
    subst ek
    have ef : fs = [] := List.length_eq_zero_iff.mp hf.symm
    subst ef
    refine h (.ref p) _ _ (Frm.new w hpn) (w.new hpn) (.of ?_)
    simp only [Rep]
    exact ⟨p, [], rfl, upd_same⟩
  · refine PE.imp (pe_disp hp hall hl h0 h15) fun σ H Q h => ?_
    obtain ⟨ev, S, g, sl, w, h⟩ := h
    intro p hpn
    have f0 : Frm g H g (upd H p (.dK [])) := Frm.fresh w hpn
    have g0 := w.gfree hpn
    have i0 := w.ifree hpn
    refine tPairs_rd ks fs hf ⟨ev, S, g, sl.frm f0, w.fresh hpn, Aft.bindAt (R1 := fun _ g ds vs => Reps t g ds vs) f0 h⟩ fun vs H2 hvl ⟨l, S2, g2, f2, w2, r2, h2⟩ => ?_
    have hp2 : H2 p = some (.dK []) := f2.keep p _ upd_same i0 (fun _ z => nomatch z)
    refine ⟨hp2, (ks.zip vs).map fun q => (Sum.inr q.1, q.2), by rw [List.map_map]; rfl, by simp; omega, ?_⟩
    generalize mergeK [] ((ks.zip vs).map fun q => ((Sum.inr q.1 : Key), q.2)) = kvs
    have g2n : g2.G p = none := f2.gnone upd_same g0
    have i2n : ∀ n, g2.io n ≠ some p := f2.inone upd_same i0
    have f3 : Frm g H g2 (upd H2 p (.dK kvs)) := Frm.own (f0.trans f2) hpn
    have w3 := w2.own (o := .dK kvs) g2n i2n (fun _ z => by rw [hp2] at z; cases z)
    refine h2 (.ref p) _ (g2.add p (.dK kvs)) (f3.freeze hpn g2n) (w3.add upd_same g2n i2n) (.of ?_)
    simp only [Rep]
    exact ⟨p, kvs, rfl, upd_same⟩
end
end Mp

set_option Elab.async false
set_option linter.all false
set_option maxRecDepth 100000
set_option autoImplicit false
set_option maxHeartbeats 1000000
/-! ==, +, index where shared lists stand in data -/
namespace Mp
open PySem PySem.Spec L2
section
variable {t : Tp} {g : Gh} {H : Hp} {S : Store}
theorem cel_lst (w : Wld t S g H) {n : Nat} {a : Addr} {l : List D} (hi : g.io n = some a) (e : S[n]? = some (.lst l)) : ∃ xs, H a = some (.lst xs) ∧ Reps t g l xs := by
  obtain ⟨a', e1, _, xs, h1, h2⟩ := w.cel n _ e
  rw [hi] at e1; cases e1
  exact ⟨xs, h1, h2⟩
mutual
theorem Rep.dpS (w : Wld t S g H) : ∀ (d : D) (v : V) (p : PyData), Rep t g d v → derP S d = some p → Dp t.K H v p
  | .non, v, p, h, e => Rep.dp w.sub _ v p h (by simpa only [derP] using e)
  | .bl b, v, p, h, e => Rep.dp w.sub _ v p h (by simpa only [derP] using e)
  | .int b, v, p, h, e => Rep.dp w.sub _ v p h (by simpa only [derP] using e)
  | .str b, v, p, h, e => Rep.dp w.sub _ v p h (by simpa only [derP] using e)
  | .tup l, v, p, h, e => by
    simp only [Rep] at h; simp only [derP] at e
    obtain ⟨a, xs, rfl, q, r⟩ := h
    cases z : derP.derPs S l with
    | none => rw [z] at e; cases e
    | some ps => rw [z] at e; cases e; exact .tup (sqT_mono w.sub q) (Reps.dpS w l xs ps r z)
  | .lst l, v, p, h, e => by
    simp only [Rep] at h; simp only [derP] at e
    obtain ⟨a, xs, rfl, q, r⟩ := h
    cases z : derP.derPs S l with
    | none => rw [z] at e; cases e
    | some ps => rw [z] at e; cases e; exact .lst (sqL_mono w.sub q) (Reps.dpS w l xs ps r z)
  | .ins _ _ _, v, p, h, e => by simp only [derP, toP] at e; cases e
  | .tpf _, v, p, h, e => by simp only [derP, toP] at e; cases e
  | .cel n, v, p, h, e => by
    simp only [Rep] at h; simp only [derP] at e
    obtain ⟨a, rfl, hi⟩ := h
    split at e
    · rename_i l hl
      obtain ⟨xs, h1, r⟩ := cel_lst w hi hl
      cases z : toP.toPs l with
      | none => rw [z] at e; cases e
      | some ps => rw [z] at e; cases e; exact .lst (.inl (.inl h1)) (Reps.dp w.sub l xs ps r z)
    · cases e
theorem Reps.dpS (w : Wld t S g H) : ∀ (ds : List D) (xs : List V) (ps : List PyData), Reps t g ds xs → derP.derPs S ds = some ps → DpAll t.K H xs ps
  | [], xs, ps, h, e => by simp only [Reps] at h; simp only [derP.derPs] at e; subst h; cases e; exact .nil
  | d :: ds, xs, ps, h, e => by
    simp only [Reps] at h; simp only [derP.derPs] at e
    obtain ⟨x, r, rfl, h1, h2⟩ := h
    cases z : derP S d with
    | none => rw [z] at e; cases e
    | some p =>
      cases z2 : derP.derPs S ds with
      | none => rw [z, z2] at e; cases e
      | some qs => rw [z, z2] at e; cases e; exact .cons (Rep.dpS w d x p h1 z) (Reps.dpS w ds r qs h2 z2)
end
theorem RepW.dpS (w : Wld t S g H) {d : D} {v : V} {p : PyData} (h : RepW t H g d v) (e : derP S d = some p) : Dp t.K H v p := by
  rcases h with h | ⟨l, a, xs, rfl, rfl, h1, _, r⟩
  · exact Rep.dpS w d v p h e
  · simp only [derP] at e
    cases z : derP.derPs S l with
    | none => rw [z] at e; cases e
    | some ps => rw [z] at e; cases e; exact .lst (.inl (.inl h1)) (Reps.dpS w l xs ps r z)
theorem lst_of (w : Wld t S g H) {d : D} {v : V} {l : List D} (h : RepW t H g d v) (e : lstS S d = some l) : ∃ a xs, v = .ref a ∧ SqL t.K H a xs ∧ Reps t g l xs := by
  cases d with
  | lst l' => simp only [lstS] at e; cases e; exact h.lst w
  | cel n =>
    simp only [lstS] at e
    split at e
    · rename_i l' hl
      cases e
      obtain ⟨a, rfl, hi⟩ := h.cel
      obtain ⟨xs, h1, r⟩ := cel_lst w hi hl
      exact ⟨a, xs, rfl, .inl (.inl h1), r⟩
    · cases e
  | _ => simp only [lstS] at e; cases e
end
section
variable {X : Cx} {t : Tp} {W : WX} {a b : Expr} {fa fb : Den D} {ba bb : Bool} {pos : Pos}
def rEqS (t : Tp) (neg : Bool) : R2 := fun x y H Q => ∃ S g d e k, Wld t S g H ∧ RepW t H g d x ∧ RepW t H g e y ∧ eqDS S d e = some k ∧ Q (.bl (k != neg)) H
def opOf (neg : Bool) : CmpOp := if neg then .NotEq else .Eq
theorem op_eqS (hK : X.K = t.K) (hu : X.A.units + 65 < cLine) (neg : Bool) : OpR X (compareOp (opOf neg)) (rEqS t neg) := by
  intro pins s σ H x y v u Q I rx ry h
  obtain ⟨S, g, d, e, k, w, ha, hb, hk, q⟩ := h
  unfold eqDS at hk
  split at hk
  · rename_i p p' e1 e2
    split at hk
    · rename_i hs
      cases hk
      simp only [Bool.and_eq_true] at hs
      have d1 := ha.dpS w e1
      have d2 := hb.dpS w e2
      rw [← hK] at d1 d2
      cases neg with
      | false => exact op_eqD (by omega) pins s σ H _ _ v u Q I rx ry ⟨p, p', d1, d2, hs.1, hs.2, by simpa using q⟩
      | true => exact op_neD (by omega) pins s σ H _ _ v u Q I rx ry ⟨p, p', d1, d2, hs.1, hs.2, by simpa using q⟩
    · cases hk
  · cases hk
theorem pe_eqS (hK : X.K = t.K) (hu : X.A.units + 65 < cLine) (neg : Bool) (hm : behindInMarks (opOf neg) b = false) (ha : PE X a (rdE t W ba fa)) (hb : PE X b (rdE t W bb fb)) :
    PE X (.Compare a [opOf neg] [b] pos) (rdE t W true fun ev S => (fa ev S).bind fun x S1 => (fb ev S1).bind fun y S2 => .of ((eqDS S2 x y).map fun k => .bl (k != neg)) S2) := by
  refine PE.imp (pe_cmpR (op_eqS hK hu neg) ha hb hm) fun σ H Q h => ?_
  obtain ⟨ev, S, g, sl, w, h⟩ := rd_bind (R1 := RepB t ba) h
  refine ⟨ev, S, g, sl, w, h.mono fun v H1 ⟨ev, S1, g1, x, sl1, w1, r1, h1⟩ => ?_⟩
  refine ⟨ev, S1, g1, sl1, w1, (Aft.bind h1).mono fun u H2 ⟨y, S2, g2, f2, w2, r2, h2⟩ => ?_⟩
  obtain ⟨d, e, q⟩ := Aft.of h2
  cases z : eqDS S2 x y with
  | none => rw [z] at e; cases e
  | some k =>
    rw [z] at e; cases e
    exact ⟨S2, g2, x, y, k, w2, (r1.frm f2).weak, RepB.weak r2, z, q _ _ _ (Frm.refl _ _) w2 (.of (by simp only [Rep]))⟩
theorem pt_eqS (hK : X.K = t.K) (hu : X.A.units + 65 < cLine) (neg : Bool) (hm : behindInMarks (opOf neg) b = false) (ha : PE X a (rdE t W ba fa)) (hb : PE X b (rdE t W bb fb)) :
    PT X (.Compare a [opOf neg] [b] pos) (rdT t W fun ev S => (fa ev S).bind fun x S1 => (fb ev S1).bind fun y S2 => .of ((eqDS S2 x y).map fun k => k != neg) S2) := by
  refine PT.imp (pt_cmpR (op_eqS hK hu neg) ha hb hm) fun σ H Q h => ?_
  obtain ⟨ev, S, g, sl, w, h⟩ := rd_bind (R1 := RepB t ba) h
  refine ⟨ev, S, g, sl, w, h.mono fun v H1 ⟨ev, S1, g1, x, sl1, w1, r1, h1⟩ => ?_⟩
  refine ⟨ev, S1, g1, sl1, w1, (Aft.bind h1).mono fun u H2 ⟨y, S2, g2, f2, w2, r2, h2⟩ => ?_⟩
  obtain ⟨d, e, q⟩ := Aft.of h2
  cases z : eqDS S2 x y with
  | none => rw [z] at e; cases e
  | some k =>
    rw [z] at e; cases e
    exact ⟨S2, g2, x, y, k, w2, (r1.frm f2).weak, RepB.weak r2, z, _, rfl, q _ _ _ (Frm.refl _ _) w2 rfl⟩
/-! ### tuples of the same things -/
theorem idD_ok {H : Hp} {g : Gh} {S : Store} {a b : D} {x y : V} (ha : Rep t g a x) (hb : Rep t g b y) (h : idD a b = true) :
    ∀ {A : Around} {s : Shared} {u v : Value}, RelV x u → RelV y v → SeqAt.EqAt A s u v true := by
  intro A s u v rx ry
  unfold idD at h
  split at h
  · rename_i n m
    obtain rfl : n = m := by simpa using h
    simp only [Rep] at ha hb
    obtain ⟨p, rfl, e1⟩ := ha
    obtain ⟨q, rfl, e2⟩ := hb
    rw [e1] at e2; cases e2
    cases rx; cases ry
    exact SeqAt.EqAt.same _
  · split at h
    · rename_i f1 f2
      obtain ⟨rfl, k1⟩ := RepW.flat (H := fun _ => none) (.inl ha) f1
      obtain ⟨rfl, k2⟩ := RepW.flat (H := fun _ => none) (.inl hb) f2
      have := eqAt_V (A := A) (s := s) rx ry k1 k2
      rw [h] at this
      exact this
    · cases h
theorem idTs_ok {H : Hp} {g : Gh} {S : Store} : ∀ {l m : List D} {xs ys : List V} {us vs : List Value}, Reps t g l xs → Reps t g m ys → idTs l m = true → Vals xs us → Vals ys vs →
    us.length = vs.length ∧ ∀ {A : Around} {s : Shared} (j : Nat) (h1 : j < us.length) (h2 : j < vs.length), SeqAt.EqAt A s us[j] vs[j] true
  | [], [], xs, ys, us, vs, h1, h2, _, r1, r2 => by
    simp only [Reps] at h1 h2; subst h1 h2
    cases r1; cases r2
    exact ⟨rfl, fun j hj => by simp at hj⟩
  | a :: l, b :: m, xs, ys, us, vs, h1, h2, h, r1, r2 => by
    simp only [Reps] at h1 h2
    obtain ⟨x, r, rfl, a1, a2⟩ := h1
    obtain ⟨y, q, rfl, b1, b2⟩ := h2
    simp only [idTs, Bool.and_eq_true] at h
    cases r1 with
    | cons c1 d1 =>
      cases r2 with
      | cons c2 d2 =>
        obtain ⟨e1, e2⟩ := idTs_ok (H := H) (S := S) a2 b2 h.2 d1 d2
        refine ⟨by simp only [List.length_cons, e1], fun {A s} j k1 k2 => ?_⟩
        cases j with
        | zero => exact idD_ok (H := H) (S := S) a1 b1 h.1 c1 c2
        | succ j => exact e2 j (by simpa using k1) (by simpa using k2)
  | [], _ :: _, _, _, _, _, _, _, h, _, _ => by simp [idTs] at h
  | _ :: _, [], _, _, _, _, _, _, h, _, _ => by simp [idTs] at h
def rEqI (t : Tp) (neg : Bool) : R2 := fun x y H Q => ∃ S g d e k, Wld t S g H ∧ RepW t H g d x ∧ RepW t H g e y ∧ eqDI S d e = some k ∧ Q (.bl (k != neg)) H
theorem op_eqI (hK : X.K = t.K) (hu : X.A.units + 65 < cLine) (neg : Bool) : OpR X (compareOp (opOf neg)) (rEqI t neg) := by
  intro pins s σ H x y v u Q I rx ry h
  obtain ⟨S, g, d, e, k, w, ha, hb, hk, q⟩ := h
  unfold eqDI at hk
  split at hk
  · rename_i k' hk'
    cases hk
    exact op_eqS hK hu neg pins s σ H x y v u Q I rx ry ⟨S, g, d, e, _, w, ha, hb, hk', q⟩
  · split at hk
    · rename_i l m
      split at hk
      · rename_i hi
        cases hk
        obtain ⟨p, xs, rfl, h1, r1⟩ := ha.tup w
        obtain ⟨p', ys, rfl, h2, r2⟩ := hb.tup w
        rw [← hK] at h1 h2
        obtain ⟨us, v1, t1, _⟩ := I.tuple h1
        obtain ⟨vs, v2, t2, _⟩ := I.tuple h2
        cases rx; cases ry
        obtain ⟨e1, e2⟩ := idTs_ok (H := H) (S := S) r1 r2 hi v1 v2
        have he : ∀ j (j1 : j < us.toArray.size) (j2 : j < vs.toArray.size), SeqAt.EqAt X.A.in1 s us.toArray[j] vs.toArray[j] ((fun _ => true) j) := fun j j1 j2 => by
          have := e2 (A := X.A.in1) (s := s) j (by simpa using j1) (by simpa using j2)
          simpa using this
        have al : ((List.range (min us.toArray.size vs.toArray.size)).all (fun _ => true) && us.toArray.size == vs.toArray.size) = true := by simp [e1]
        cases neg with
        | false => exact SeqAt.RcAt.tuples t1 t2 (by omega) he _ _ _ _ (by rw [al]; exact ⟨.bl _, H, I, rfl, q⟩)
        | true => exact SeqAt.RcNeAt.tuples t1 t2 (by omega) he _ _ _ _ (by rw [al]; exact ⟨.bl _, H, I, rfl, q⟩)
      · cases hk
    · cases hk
theorem pe_eqI (hK : X.K = t.K) (hu : X.A.units + 65 < cLine) (neg : Bool) (hm : behindInMarks (opOf neg) b = false) (ha : PE X a (rdE t W ba fa)) (hb : PE X b (rdE t W bb fb)) :
    PE X (.Compare a [opOf neg] [b] pos) (rdE t W true fun ev S => (fa ev S).bind fun x S1 => (fb ev S1).bind fun y S2 => .of ((eqDI S2 x y).map fun k => .bl (k != neg)) S2) := by
  refine PE.imp (pe_cmpR (op_eqI hK hu neg) ha hb hm) fun σ H Q h => ?_
  obtain ⟨ev, S, g, sl, w, h⟩ := rd_bind (R1 := RepB t ba) h
  refine ⟨ev, S, g, sl, w, h.mono fun v H1 ⟨ev, S1, g1, x, sl1, w1, r1, h1⟩ => ?_⟩
  refine ⟨ev, S1, g1, sl1, w1, (Aft.bind h1).mono fun u H2 ⟨y, S2, g2, f2, w2, r2, h2⟩ => ?_⟩
  obtain ⟨d, e, q⟩ := Aft.of h2
  cases z : eqDI S2 x y with
  | none => rw [z] at e; cases e
  | some k =>
    rw [z] at e; cases e
    exact ⟨S2, g2, x, y, k, w2, (r1.frm f2).weak, RepB.weak r2, z, q _ _ _ (Frm.refl _ _) w2 (.of (by simp only [Rep]))⟩
theorem pt_eqI (hK : X.K = t.K) (hu : X.A.units + 65 < cLine) (neg : Bool) (hm : behindInMarks (opOf neg) b = false) (ha : PE X a (rdE t W ba fa)) (hb : PE X b (rdE t W bb fb)) :
    PT X (.Compare a [opOf neg] [b] pos) (rdT t W fun ev S => (fa ev S).bind fun x S1 => (fb ev S1).bind fun y S2 => .of ((eqDI S2 x y).map fun k => k != neg) S2) := by
  refine PT.imp (pt_cmpR (op_eqI hK hu neg) ha hb hm) fun σ H Q h => ?_
  obtain ⟨ev, S, g, sl, w, h⟩ := rd_bind (R1 := RepB t ba) h
  refine ⟨ev, S, g, sl, w, h.mono fun v H1 ⟨ev, S1, g1, x, sl1, w1, r1, h1⟩ => ?_⟩
  refine ⟨ev, S1, g1, sl1, w1, (Aft.bind h1).mono fun u H2 ⟨y, S2, g2, f2, w2, r2, h2⟩ => ?_⟩
  obtain ⟨d, e, q⟩ := Aft.of h2
  cases z : eqDI S2 x y with
  | none => rw [z] at e; cases e
  | some k =>
    rw [z] at e; cases e
    exact ⟨S2, g2, x, y, k, w2, (r1.frm f2).weak, RepB.weak r2, z, _, rfl, q _ _ _ (Frm.refl _ _) w2 rfl⟩
theorem pe_catS (hK : X.K = t.K) (ha : PE X a (rdE t W ba fa)) (hb : PE X b (rdE t W bb fb)) :
    PE X (.BinOp a .Add b pos) (rdE t W true fun ev S => (fa ev S).bind fun x S1 => (fb ev S1).bind fun y S2 => .of (catD S2 x y) S2) := by
  refine PE.imp (pe_op op_catL ha hb) fun σ H Q h => ?_
  obtain ⟨ev, S, g, sl, w, h⟩ := rd_bind (R1 := RepB t ba) h
  refine ⟨ev, S, g, sl, w, h.mono fun v H1 ⟨ev, S1, g1, x, sl1, w1, r1, h1⟩ => ?_⟩
  refine ⟨ev, S1, g1, sl1, w1, (Aft.bind h1).mono fun u H2 ⟨y, S2, g2, f2, w2, r2, h2⟩ => ?_⟩
  obtain ⟨d, e, q⟩ := Aft.of h2
  unfold catD at e
  split at e
  · rename_i l m e1 e2
    split at e
    · rename_i hl
      cases e
      obtain ⟨p1, xs, rfl, s1, q1⟩ := lst_of w2 (r1.frm f2).weak e1
      obtain ⟨p2, ys, rfl, s2, q2⟩ := lst_of w2 (RepB.weak r2) e2
      rw [← hK] at s1 s2
      refine ⟨p1, p2, xs, ys, rfl, rfl, s1, s2, ?_, fun p hp => q _ _ _ (Frm.new w2 hp) (w2.new hp) (.of (Rep.newL w2 hp (q1.append q2)))⟩
      have := lineB_ok hl
      rw [q1.len, q2.len] at this
      exact this
    · cases e
  · cases e
theorem Rep.pl {g : Gh} : ∀ {d : D} {v : V}, Rep t g d v → Rep t g d.pl v
  | .tpf l, v, h => by
    simp only [Rep] at h
    obtain ⟨a, xs, o, rfl, h1, _, _, r⟩ := h
    show Rep t g (.tup l) _
    simp only [Rep]
    exact ⟨a, xs, rfl, .inl (.inr ⟨o, h1⟩), r⟩
  | .non, _, h => h
  | .bl _, _, h => h
  | .int _, _, h => h
  | .str _, _, h => h
  | .tup _, _, h => h
  | .lst _, _, h => h
  | .ins _ _ _, _, h => h
  | .cel _, _, h => h
  | .dic, _, h => h
theorem pe_wk (ha : PE X a (rdE t W true fa)) : PE X a (rdE t W true fun ev S => (fa ev S).bind fun x S1 => .ok x.pl S1) := by
  refine PE.imp ha fun σ H Q h => ?_
  obtain ⟨ev, S, g, sl, w, h⟩ := rd_bind (R1 := RepB t true) h
  refine ⟨ev, S, g, sl, w, h.mono fun v H1 ⟨ev, S1, g1, x, sl1, w1, r1, h1⟩ => ?_⟩
  exact h1 _ _ _ (Frm.refl _ _) w1 (.of (Rep.pl r1.str))
/-- tuple(xs) of a list: a new tuple, known to its object -/
theorem call_tupF : CallR X (.type "tuple") (fun xs H Q => ∃ p ys, xs = [.ref p] ∧ SqL X.K H p ys ∧ ∀ l o, H l = none → o.cls = .type "tuple" → o.dict = none → Q (.ref l) (upd H l (.frz o (.tup ys)))) := by
  intro pins s σ H xs us Q I r h
  obtain ⟨p, ys, rfl, hq, q⟩ := h
  obtain ⟨u, rfl, rx⟩ := L2.vals1 r
  cases rx
  obtain ⟨its, r', pl, hz⟩ := I.list hq
  have hlen := r'.length
  refine call_tuple_list pl.isList (fun h' kp => ?_) (by simp only [List.size_toArray] <;> omega)
  have I1 : Inv X pins σ H { s with heap := h' } := I.kept (t' := s.toks) kp
  have I2 : Inv X pins σ (upd H h'.objs.size (.frz { cls := .type "tuple", data := .seq its.toArray } (.tup ys))) { s with heap := h'.push { cls := .type "tuple", data := .seq its.toArray } } :=
    I1.laid (t' := s.toks) (fun b o e => Heap.get?_push_of_some _ e) (Nat.le_refl _) (show ObjOk X.prog X.w _ _ _ (.frz _ (.tup ys)) from ⟨Heap.get?_push_size _ rfl, hz, its, r', PyProof.Rows.IsTup.new _ _⟩)
  exact ⟨.ref h'.objs.size, _, I2, rfl, q _ _ (I1.hok.fresh (Nat.le_refl _)) rfl rfl⟩
theorem pe_tpF {p : Pos} (hK : X.K = t.K) (hg : Gl X "tuple") (hm : X.mg "tuple" = none) (ha : PE X a (rdE t W ba fa)) (hs : ∀ v p, a ≠ .Starred v p) :
    PE X (.Call (.Name "tuple" p) [a] [] pos) (rdE t W true fun ev S => (fa ev S).bind fun x S1 => .of ((lstS S1 x).map .tpf) S1) := by
  refine PE.imp (pe_callTy call_tupF hg hm (by decide +kernel) (pa_cons ha pa_nil (star1 hs)) (by decide) (by decide) (star1 hs) rfl) fun σ H Q h => ?_
  obtain ⟨ev, S, g, sl, w, h⟩ := rd_bind (R1 := RepB t ba) h
  refine ⟨ev, S, g, sl, w, h.mono fun v H1 ⟨ev, S1, g1, x, sl1, w1, r1, h1⟩ => ?_⟩
  obtain ⟨d, e, q⟩ := Aft.of h1
  cases z : lstS S1 x with
  | none => rw [z] at e; cases e
  | some l =>
    rw [z] at e; cases e
    obtain ⟨p1, xs, rfl, s1, q1⟩ := lst_of w1 (RepB.weak r1) z
    rw [← hK] at s1
    refine ⟨p1, xs, rfl, s1, fun l' o hl hc hd => q _ _ _ (Frm.new w1 hl) (w1.new hl) (.of ?_)⟩
    simp only [Rep]
    exact ⟨l', xs, o, rfl, upd_same, hc, hd, q1.frm (Frm.new w1 hl)⟩
theorem strs_rep {g : Gh} : ∀ {l : List D} {ys : List Str} {xs : List V}, ixoD.strsD l = some ys → Reps t g l xs → xs = ys.map V.str
  | [], ys, xs, e, r => by
    simp only [ixoD.strsD] at e; cases e
    simp only [Reps] at r; rw [r]; rfl
  | d :: l, ys, xs, e, r => by
    simp only [Reps] at r
    obtain ⟨x, xs', rfl, rx, r⟩ := r
    cases d with
    | str y =>
      simp only [ixoD.strsD] at e
      cases z : ixoD.strsD l with
      | none => rw [z] at e; cases e
      | some ys' =>
        rw [z] at e; cases e
        simp only [Rep] at rx
        rw [rx, strs_rep z r]; rfl
    | _ => simp only [ixoD.strsD] at e; cases e
theorem find_at {ys : List Str} {z : Str} {j : Nat} (h : ys.findIdx? (fun y => decide (y = z)) = some j) : ys[j]? = some z ∧ ∀ m, m < j → ys[m]? ≠ some z := by
  rw [List.findIdx?_eq_some_iff_getElem] at h
  obtain ⟨h1, h2, h3⟩ := h
  have e : ys[j] = z := of_decide_eq_true h2
  refine ⟨by rw [List.getElem?_eq_getElem h1, e], fun m hm e2 => ?_⟩
  have h4 := h3 m hm
  obtain ⟨h5, h6⟩ := List.getElem?_eq_some_iff.mp e2
  exact h4 (decide_eq_true h6)
theorem pe_ixT {ap : Pos} (hK : X.K = t.K) (ha : PE X a (rdE t W true fa)) (hb : PE X b (rdE t W bb fb)) (hs : ∀ v p, b ≠ .Starred v p) (hba : attributeBase a "index" X.env (eval a X.env) = eval a X.env) (hl : (ap.endLine == pos.line) = true) :
    PE X (.Call (.Attribute a "index" ap) [b] [] pos) (rdE t W true fun ev S => (fa ev S).bind fun x S1 => if ixB true x then (fb ev S1).bind fun y S2 => .of (ixoD true x y) S2 else .bad) := by
  refine ⟨fun pins s σ H Q I h => ?_⟩
  have tr : backTo pos (starEach [b] X.env) = [(false, eval b X.env)] := by rw [star1s hs]; rfl
  obtain ⟨ev, S, g, sl, w, h⟩ := rd_bind (R1 := RepB t true) h
  refine wpAny_Call_method_late hba (by rw [tr]; rfl) hl rfl (L2.thn (ha.run pins s σ H _ I ⟨ev, S, g, sl, w, h⟩) fun v s1 ⟨x, H1, I1, r1, ev1, S1, g1, dx, sl1, w1, rx, h1⟩ => ?_)
  split at h1
  case isFalse => exact h1.elim
  rename_i hix
  obtain ⟨l, rfl⟩ : ∃ l, dx = .tpf l := by
    cases dx with
    | tpf l => exact ⟨l, rfl⟩
    | _ => cases hix
  have rx' := rx.str
  simp only [Rep] at rx'
  obtain ⟨p, xs, o, rfl, hG, hcl, hdi, rl⟩ := rx'
  have hH := w1.sub _ _ hG
  obtain rfl : v = Value.ref p := r1
  obtain ⟨hob, _⟩ := I1.hok p _ hH
  refine ⟨"tuple", "tuple.index", PySem.F.plainAttrs_tuple, PySem.F.slot_tuple_index, PySem.F.type_tuple_index, ⟨o, hob, hcl⟩, fun a e => by cases e; exact ⟨o, hob, hdi⟩, ?_⟩
  have hA := (pa_cons hb pa_nil (star1 hs)).run pos pins s1 σ H1 (fun vs H2 => ∃ y S2 g2 v2, vs = [v2] ∧ Frm g1 H1 g2 H2 ∧ Wld t S2 g2 H2 ∧ RepB t bb H2 g2 y v2 ∧ Aft t (fun c d H' => W c d σ H') (RepB t true) g2 H2 (.of (ixoD true (.tpf l) y) S2) Q) I1 ⟨ev1, S1, g1, sl1, w1, (Aft.bind (R1 := RepB t bb) h1).mono fun v2 H2 ⟨y, S2, g2, f2, w2, r2, h2⟩ => ⟨y, S2, g2, v2, rfl, f2, w2, r2, h2⟩⟩
  rw [star1s hs] at hA ⊢
  refine Calls.callWith_builtin rfl (Calls.evalArgs_plain ?_)
  refine L2.thn hA fun us s2 ⟨vs, H2, I2, r2, y, S2, g2, v2, e, f2, w2, ry, h2⟩ => ?_
  subst e
  obtain ⟨d, e, q⟩ := Aft.of h2
  obtain ⟨z, rfl⟩ : ∃ z, y = .str z := by
    cases y with
    | str z => exact ⟨z, rfl⟩
    | _ => simp only [ixoD] at e; cases e
  simp only [ixoD] at e
  split at e
  · rename_i ys hys
    cases hj : ys.findIdx? (fun y => decide (y = z)) with
    | none => rw [hj] at e; cases e
    | some j =>
      rw [hj] at e; cases e
      obtain ⟨e1, e2⟩ := find_at hj
      obtain rfl := (RepB.weak ry).str
      have hx := strs_rep hys rl
      refine mt_tup_index pins s2 σ H2 _ _ _ us Q I2 (show RelV (.ref p) (.ref p) from rfl) r2 ⟨p, ys, z, j, rfl, rfl, ?_, e1, e2, q _ _ _ (Frm.refl _ _) w2 (.of (by simp only [Rep]))⟩
      rw [← hx]
      exact .inl (.inr ⟨o, w2.sub _ _ (f2.leG _ _ hG)⟩)
  · cases e
theorem pe_ixL {ap : Pos} (hK : X.K = t.K) (ha : PE X a (rdE t W ba fa)) (hb : PE X b (rdE t W bb fb)) (hs : ∀ v p, b ≠ .Starred v p) (hba : attributeBase a "index" X.env (eval a X.env) = eval a X.env) (hl : (ap.endLine == pos.line) = true) :
    PE X (.Call (.Attribute a "index" ap) [b] [] pos) (rdE t W true fun ev S => (fa ev S).bind fun x S1 => if ixB false x then (fb ev S1).bind fun y S2 => .of (ixoD false x y) S2 else .bad) := by
  have tr : starEach [b] X.env = [(false, eval b X.env)] := star1s hs
  refine PE.imp (pe_bm PySem.F.plainAttrs_list PySem.F.slot_list_index PySem.F.type_list_index mt_index ha (pa_cons hb pa_nil (star1 hs)) hba (by rw [tr]; rfl) hl (star1 hs) rfl) fun σ H Q h => ?_
  obtain ⟨ev, S, g, sl, w, h⟩ := rd_bind (R1 := RepB t ba) h
  refine ⟨ev, S, g, sl, w, h.mono fun v H1 ⟨ev1, S1, g1, dx, sl1, w1, rx, h1⟩ => ?_⟩
  split at h1
  case isFalse => exact h1.elim
  rename_i hix
  obtain ⟨l, rfl⟩ : ∃ l, dx = .lst l := by
    cases dx with
    | lst l => exact ⟨l, rfl⟩
    | _ => cases hix
  obtain ⟨p, xs, rfl, hq, rl⟩ := (RepB.weak rx).lst w1
  rw [← hK] at hq
  refine ⟨.inl ⟨rfl, xs, hq⟩, ev1, S1, g1, sl1, w1, (Aft.bind (R1 := RepB t bb) h1).mono fun v2 H2 ⟨y, S2, g2, f2, w2, ry, h2⟩ => ?_⟩
  obtain ⟨d, e, q⟩ := Aft.of h2
  obtain ⟨z, rfl⟩ : ∃ z, y = .str z := by
    cases y with
    | str z => exact ⟨z, rfl⟩
    | _ => simp only [ixoD] at e; cases e
  simp only [ixoD] at e
  split at e
  · rename_i ys hys
    cases hj : ys.findIdx? (fun y => decide (y = z)) with
    | none => rw [hj] at e; cases e
    | some j =>
      rw [hj] at e; cases e
      obtain ⟨e1, e2⟩ := find_at hj
      obtain rfl := (RepB.weak ry).str
      have hx := strs_rep hys rl
      subst hx
      obtain ⟨p', xs', e3, hq2, rl2⟩ := (RepB.weak (RepB.frm f2 rx)).lst w2
      cases e3
      have hx2 := strs_rep hys rl2
      subst hx2
      rw [← hK] at hq2
      refine ⟨p, _, _, j, .str z, rfl, rfl, hq2, rfl, flat_strs ys, by simp [e1], by simp [eqV], fun m z' hm hz' => ?_, q _ _ _ (Frm.refl _ _) w2 (.of (by simp only [Rep]))⟩
      rw [List.getElem?_map] at hz'
      obtain ⟨y, hy, rfl⟩ := Option.map_eq_some_iff.mp hz'
      have : y ≠ z := fun e4 => e2 m hm (by rw [hy, e4])
      simp [eqV, this]
  · cases e
end
end Mp

set_option Elab.async false
set_option linter.all false
set_option maxRecDepth 100000
set_option autoImplicit false
set_option maxHeartbeats 2000000
namespace Mp
open PySem PySem.Spec L2
/-! ### instances of one's own classes -/
section
variable {t : Tp} {S : Store} {g : Gh} {H : Hp}
theorem ins_at (w : Wld t S g H) {d : D} {x : V} (r : RepW t H g d x) {c : Nat} {ns : List Str} {vs : List D} (e : insD S d = some (c, ns, vs)) :
    ∃ a A dx xs, x = .ref a ∧ t.ct c = some A ∧ H a = some (.ins A dx (ns.zip xs)) ∧ ns.length = xs.length ∧ Reps t g vs xs := by
  unfold insD at e
  split at e
  · cases e
    have r := r.ins
    simp only [Rep] at r
    obtain ⟨a, A, dx, xs, rfl, hc, q, el, rs⟩ := r
    exact ⟨a, A, dx, xs, rfl, hc, w.sub _ _ q, el, rs⟩
  · split at e
    · rename_i hs
      cases e
      obtain ⟨a, rfl, hi⟩ := r.cel
      obtain ⟨a', e1, _, A, dx, xs, hc, q, el, rs⟩ := w.cel _ _ hs
      rw [hi] at e1; cases e1
      exact ⟨a, A, dx, xs, rfl, hc, q, el, rs⟩
    · cases e
  · cases e
theorem getF_rep {f : Str} {d : D} : ∀ {ns : List Str} {vs : List D} {xs : List V}, getF f ns vs = some d → ns.length = xs.length → Reps t g vs xs → ∃ v, (ns.zip xs).lookup f = some v ∧ Rep t g d v
  | [], _, _, e, _, _ => by simp [getF] at e
  | n :: ns, [], _, e, _, _ => by simp [getF] at e
  | n :: ns, v :: vs, [], e, hl, _ => by simp at hl
  | n :: ns, v :: vs, x :: xs, e, hl, r => by
    simp only [Reps] at r
    obtain ⟨x', xs', h1, r1, r2⟩ := r
    cases h1
    simp only [getF] at e
    rw [List.zip_cons_cons, List.lookup_cons]
    split at e
    · rename_i hn
      cases e
      subst hn
      rw [show (n == n) = true from by simp]
      exact ⟨x, rfl, r1⟩
    · rename_i hn
      rw [show (f == n) = false from by simpa using Ne.symm hn]
      exact getF_rep e (by simpa using hl) r2
theorem lookup_no {m : Str} : ∀ {ns : List Str} {xs : List V}, ns.contains m = false → (ns.zip xs).lookup m = none
  | [], _, _ => rfl
  | _ :: _, [], _ => rfl
  | n :: ns, x :: xs, h => by
    simp only [List.contains_cons, Bool.or_eq_false_iff] at h
    rw [List.zip_cons_cons, List.lookup_cons, h.1]
    exact lookup_no h.2
theorem setF_rep {f : Str} {d : D} {v : V} (rd : Rep t g d v) : ∀ {ns : List Str} {vs : List D} {xs : List V}, ns.length = xs.length → Reps t g vs xs →
    ∃ xs', putF f v (ns.zip xs) = (setF f d ns vs).1.zip xs' ∧ (setF f d ns vs).1.length = xs'.length ∧ Reps t g (setF f d ns vs).2 xs'
  | [], vs, xs, hl, r => by
    refine ⟨[v], ?_, ?_, ?_⟩ <;> simp [setF, putF]
    exact .one rd
  | n :: ns, vs, [], hl, r => by simp at hl
  | n :: ns, vs, x :: xs, hl, r => by
    cases vs with
    | nil =>
      have := r.len
      simp at this
    | cons w vs =>
      simp only [Reps] at r
      obtain ⟨x', xs', h1, r1, r2⟩ := r
      cases h1
      rw [List.zip_cons_cons]
      unfold putF setF
      by_cases hn : n = f
      · rw [if_pos hn, if_pos hn]
        exact ⟨v :: xs, rfl, by simpa using hl, .cons rd r2⟩
      · rw [if_neg hn, if_neg hn]
        obtain ⟨ys, e1, e2, e3⟩ := setF_rep (f := f) rd (ns := ns) (vs := vs) (xs := xs) (by simpa using hl) r2
        refine ⟨x :: ys, ?_, ?_, .cons r1 e3⟩
        · rw [e1]; rfl
        · simp [e2]
end
section
variable {t : Tp} {tb : Tab} {T : Top} {C : Cl} {k : Nat} {W : WX} {s : Sc} {X : Cx} {pos : Pos} {a b : Expr} {fa fb : Den D} {ba bb : Bool}
/-- e.f -/
theorem pe_attX (c : Ctx t tb T C k W s X) (G : Glob t tb T C k) {f : Str} (hf : f ∈ tb.ats) (ha : PE X a (rdE t W ba fa)) (hb : attributeBase a f X.env (eval a X.env) = eval a X.env) :
    PE X (.Attribute a f pos) (rdE t W true fun ev S => (fa ev S).bind fun x S1 => .of (attD S1 f x) S1) := by
  refine PE.imp (pe_fld ha hb) fun σ H Q h => ?_
  obtain ⟨ev, S, g, sl, w, h⟩ := rd_bind (R1 := RepB t ba) h
  refine ⟨ev, S, g, sl, w, h.mono fun v H1 ⟨ev, S1, g1, x, sl1, w1, r1, h1⟩ => ?_⟩
  obtain ⟨d, e, q⟩ := Aft.of h1
  have key : ∃ cc ns vs, insD S1 x = some (cc, ns, vs) ∧ getF f ns vs = some d := by
    unfold attD at e
    split at e
    · exact ⟨_, _, _, rfl, e⟩
    · split at e
      · rename_i c1 n1 v1 hs
        exact ⟨c1, n1, v1, by simp only [insD, hs], e⟩
      · cases e
    · cases e
  obtain ⟨cc, ns, vs, hi, hg⟩ := key
  obtain ⟨p, A, dx, xs, rfl, hc, hp, el, rs⟩ := ins_at w1 (RepB.weak r1) hi
  obtain ⟨k1, k2⟩ := G.ats cc A f hc hf
  obtain ⟨v, e1, rv⟩ := getF_rep hg el rs
  exact ⟨p, A, dx, _, v, rfl, hp, by rw [c.hK]; exact k1, by rw [c.hK]; exact k2, e1, q _ _ _ (Frm.refl _ _) w1 (.of rv)⟩
/-- the callee runs, somewhere below the body -/
theorem run_fnA {f : Addr} {fd : FuncData} {ps : List Str} {sp : Sp} {A : Around} {pins : List (Addr × Obj)} {σ : St} {H : Hp} {sh : Shared} {Q : VK} {us : List Value} {vs : List V} (tk : Takes X W) (F : FnOk X.prog X.w X.K X.mg X.base (L2.CX X.prog X.w) k f fd ps sp) (sb : Sub X k A) (hb : Binds X.K fd ps [])
    (I : Inv X pins σ H sh) (r : Vals vs us) (h : sp vs H Q (WE W σ)) : wpAny (model X.prog X.w) A (call (.ref f) us) (EP X pins σ Q) X.xe sh := by
  have hl : us.length = ps.length := by rw [← r.length]; exact F.len _ _ _ _ h
  have bd := hb sh us I.kIn (by rw [List.append_nil]; exact hl)
  rw [List.append_nil] at bd
  have e0 : Env0 X.prog X.w X.K X.mg X.base A X.stack sh H := by
    have e := I.env0
    exact ⟨by rw [sb.fr]; exact e.frames, e.mod, e.bs, e.bsz, e.funs, e.frf, e.hok, e.bare⟩
  refine wpAny_call (codeAny_mono (F.run A X.stack sh H ⟨us, []⟩ us vs Q (WE W σ) sb.room e0 bd r h) fun r s' hq => ?_)
  cases r with
  | error e => exact passAt tk σ pins H sh e s' I hq
  | ok fl =>
    cases fl with
    | ret u => exact I.after hq
    | next => exact False.elim hq
    | brk => exact False.elim hq
    | cont => exact False.elim hq
/-- a method's promise, at this context -/
theorem mt_at (c : Ctx t tb T C k W s X) (G : Glob t tb T C k) {cc f np : Nat} {m : Str} (h : tb.mt cc f = some (m, np)) :
    ∃ A a fd ps, t.ct cc = some A ∧ Cls X.K A ∧ Meth X.K A m a ∧ Binds X.K fd ps [] ∧ ps.length = np ∧ FnOk X.prog X.w X.K X.mg X.base (L2.CX X.prog X.w) k a fd ps (spF t C f np) ∧ PySem.W.fnIn X.K a = true ∧
      (∀ ks perm, (cc, f, ks, perm) ∈ tb.kw → KBn X.K fd ps 1 ks (fun us ws => us ++ perm.filterMap (ws[·]?)) (fun vs zs => vs ++ perm.filterMap (zs[·]?)) ∧ ks.length + 1 = np ∧ perm.length + 1 = np) := by
  obtain ⟨A, a, fd, ps, h1, h2, h3, h4, h5, h6, h7, h8⟩ := (G.mt cc f m np h).ex
  refine ⟨A, a, fd, ps, h1, by rw [c.hK]; exact h2, by rw [c.hK]; exact h3, by rw [c.hK]; exact h4, h5, ?_, by rw [c.hK]; exact h7, by rw [c.hK]; exact h8⟩
  rw [c.hP, c.hw, c.hK, c.hg, c.hb]; exact h6
theorem Ctx.sub0 (c : Ctx t tb T C k W s X) : Sub X k X.A := ⟨c.room.mono (Nat.le_succ k), rfl⟩
theorem Ctx.sub1 (c : Ctx t tb T C k W s X) : Sub X k X.A.in1 := ⟨c.room.in1, rfl⟩
theorem aft_of {g : Gh} {H : Hp} {o : Out D} {σ : St} {Q : VK} (h : Aft t (fun c d H' => W c d σ H') (RepB t true) g H o Q) : Aft t (WE W σ) (fun _ g d v => Rep t g d v) g H o Q := by
  cases o with
  | ok d S2 => exact fun v H' g' f' w' r => h v H' g' f' w' (.of r)
  | exc e S2 => exact h
  | bad => exact h
theorem mthB_ins {S : Store} {cc : Nat} {m : Str} {x : D} (h : mthB S cc m x = true) : ∃ nn vv, insD S x = some (cc, nn, vv) ∧ nn.contains m = false := by
  unfold mthB at h
  split at h
  · rename_i c' nn vv hi
    simp only [Bool.and_eq_true, Bool.not_eq_true'] at h
    have := eq_of_beq h.1
    subst this
    exact ⟨nn, vv, hi, h.2⟩
  · cases h
theorem isInsB_ins {S : Store} {cc : Nat} {x : D} (h : isInsB S cc x = true) : ∃ nn vv, insD S x = some (cc, nn, vv) := by
  unfold isInsB at h
  split at h
  · rename_i c' nn vv hi
    have := eq_of_beq h
    subst this
    exact ⟨nn, vv, hi⟩
  · cases h
/-- o.m(e, ..) -/
theorem pe_mthX (c : Ctx t tb T C k W s X) (G : Glob t tb T C k) {cc f np : Nat} {m : Str} {e : Expr} {es : List Expr} {bs : List Bool} {fs : Den (List D)} {apos : Pos} {pl : Sem Bool} (hm : tb.mt cc f = some (m, np)) (hb : bs.all id = true) (hn : bs.length + 1 = np)
    (ha : PE X a (rdE t W true fa)) (hs : PA X (e :: es) (rdA t W bs fs)) (ns : ∀ x ∈ e :: es, ∀ v p, x ≠ .Starred v p)
    (ht : eval (.Call (.Attribute a m apos) (e :: es) [] pos) X.env = (do
      let ov ← eval a X.env
      standAt apos.atName
      let (f, first) ← holding [ov] (getMethod ov m pl)
      callWith pos f first (backTo pos (starEach (e :: es) X.env)) (backToKw pos (keywordEach [] X.env)))) :
    PE X (.Call (.Attribute a m apos) (e :: es) [] pos) (rdE t W true fun ev S => (fa ev S).bind fun x S1 => if mthB S1 cc m x then (fs ev S1).bind fun l S2 => C.fn f (x :: l) [] [] S2 else .bad) := by
  obtain ⟨A, p, fd, ps, h1, h2, h3, h4, h5, h6, _, _⟩ := mt_at c G hm
  refine ⟨fun pins sh σ H Q I h => ?_⟩
  obtain ⟨ev, S, g, sl, w, h⟩ := rd_bind (R1 := RepB t true) h
  refine PySem.W.methodCall_KW (pl := pl) (thn (ha.run pins sh σ H _ I ⟨ev, S, g, sl, w, h⟩) fun u s1 ⟨v, H1, I1, rx, q⟩ => ?_) ht
  obtain ⟨ev, S1, g1, x, sl1, w1, r1, hh⟩ := q
  split at hh
  case isFalse => exact hh.elim
  rename_i hmt
  obtain ⟨nn, vv, hi, hno⟩ := mthB_ins hmt
  obtain ⟨o, A', dx, xs, rfl, hc, ho, el, rs⟩ := ins_at w1 (RepB.weak r1) hi
  rw [h1] at hc; cases hc
  obtain rfl : u = Value.ref o := rx
  refine getmeth_ok I1 ho h2 h3 (lookup_no hno) ?_
  refine PySem.W.callWith_K (first := [.ref o]) (h₀ := X.base) I.ok.mod.kin h3.kp (thn (hs.run pos pins s1 σ H1 (fun vs H2 => ∃ l S2 g2, Frm g1 H1 g2 H2 ∧ Wld t S2 g2 H2 ∧ RepsX t H2 g2 bs l vs ∧ Aft t (fun c d H' => W c d σ H') (RepB t true) g2 H2 (C.fn f (x :: l) [] [] S2) Q) I1 ?_) fun us s2 ⟨vs, H2, I2, r, q2⟩ => ⟨I2.kIn, ?_⟩) (star1 (ns e List.mem_cons_self)) (starN fun e he => ns e (List.mem_cons_of_mem _ he))
  · refine ⟨ev, S1, g1, sl1, w1, (Aft.bind (R1 := fun H g ds xs => RepsX t H g bs ds xs) hh).mono fun v H2 ⟨l, S2, g2, f2, w2, r2, h2⟩ => ⟨l, S2, g2, f2, w2, r2, h2⟩⟩
  · obtain ⟨l, S2, g2, f2, w2, r2, h2'⟩ := q2
    refine run_fnA (vs := .ref o :: vs) c.tk h6 c.sub0 h4 I2 (.cons rfl r) ⟨S2, g2, x :: l, w2, ?_, ?_, aft_of h2'⟩
    · exact .cons ((RepB.str r1).frm f2) (RepsX.strong hb r2)
    · rw [List.length_cons, ← (RepsX.len r2).1]; exact hn
/-- o.m() -/
theorem pe_mth0X (c : Ctx t tb T C k W s X) (G : Glob t tb T C k) {cc f : Nat} {m : Str} {apos : Pos} {pl : Sem Bool} (hm : tb.mt cc f = some (m, 1))
    (ha : PE X a (rdE t W true fa))
    (ht : eval (.Call (.Attribute a m apos) [] [] pos) X.env = (do
      let ov ← eval a X.env
      standAt apos.atName
      let (f, first) ← holding [ov] (getMethod ov m pl)
      callWith pos f first (backTo pos (starEach [] X.env)) (backToKw pos (keywordEach [] X.env)))) :
    PE X (.Call (.Attribute a m apos) [] [] pos) (rdE t W true fun ev S => (fa ev S).bind fun x S1 => if mthB S1 cc m x then C.fn f [x] [] [] S1 else .bad) := by
  obtain ⟨A, p, fd, ps, h1, h2, h3, h4, h5, h6, _, _⟩ := mt_at c G hm
  refine ⟨fun pins sh σ H Q I h => ?_⟩
  obtain ⟨ev, S, g, sl, w, h⟩ := rd_bind (R1 := RepB t true) h
  refine PySem.W.methodCall_KW (pl := pl) (thn (ha.run pins sh σ H _ I ⟨ev, S, g, sl, w, h⟩) fun u s1 ⟨v, H1, I1, rx, q⟩ => ?_) ht
  obtain ⟨ev, S1, g1, x, sl1, w1, r1, hh⟩ := q
  split at hh
  case isFalse => exact hh.elim
  rename_i hmt
  obtain ⟨nn, vv, hi, hno⟩ := mthB_ins hmt
  obtain ⟨o, A', dx, xs, rfl, hc, ho, el, rs⟩ := ins_at w1 (RepB.weak r1) hi
  rw [h1] at hc; cases hc
  obtain rfl : u = Value.ref o := rx
  refine getmeth_ok I1 ho h2 h3 (lookup_no hno) ?_
  refine PySem.W.callWith_K0 (first := [.ref o]) I1.kIn h3.kp ?_
  exact run_fnA (vs := [.ref o]) c.tk h6 c.sub0 h4 I1 (.cons rfl .nil) ⟨S1, g1, [x], w1, .one (RepB.str r1), rfl, aft_of hh⟩
theorem vals1 {v : V} {us : List Value} (r : Vals [v] us) : ∃ u, us = [u] ∧ RelV v u := by
  cases r with
  | cons a b => cases b; exact ⟨_, rfl, a⟩
/-- len(o), its own -/
theorem pe_lenOX (c : Ctx t tb T C k W s X) (G : Glob t tb T C k) {cc f : Nat} {p : Pos} (hm : tb.mt cc f = some (("__len__" : Str), 1)) (hl : kindB s "len" .globalImplicit = true) (ha : PE X a (rdE t W true fa)) (hs : ∀ v p, a ≠ .Starred v p) :
    PE X (.Call (.Name "len" p) [a] [] pos) (rdE t W true fun ev S => (fa ev S).bind fun x S1 => if isInsB S1 cc x then (C.fn f [x] [] [] S1).bind fun r S2 => .of (lenD r) S2 else .bad) := by
  obtain ⟨A, q, fd, ps, h1, h2, h3, h4, h5, h6, _, _⟩ := mt_at c G hm
  refine ⟨fun pins sh σ H Q I h => ?_⟩
  obtain ⟨ev, S, g, sl, w, h⟩ := rd_bind (R1 := RepB t true) h
  refine wpAny_Call_Name_kw (ld_blt (u := .builtin "len") I (c.gl hl) (by rw [c.hg]; exact G.bn _ (by decide)) (by decide +kernel) ?_ (by decide) (by decide))
  refine PyProof.Rows.callWith_builtin1 (thn ((pa_cons ha pa_nil (star1 hs)).run pos pins sh σ H (fun vs H1 => ∃ v S1 g1 x, vs = [v] ∧ Wld t S1 g1 H1 ∧ RepB t true H1 g1 x v ∧ Aft t (fun c d H' => W c d σ H') (RepB t true) g1 H1 (if isInsB S1 cc x then (C.fn f [x] [] [] S1).bind fun r S2 => .of (lenD r) S2 else .bad) Q) I ?_) fun us s1 ⟨vs, H1, I1, r, q1⟩ => ?_) (star1 hs) (starN (by simp))
  · exact ⟨ev, S, g, sl, w, h.mono fun v H1 ⟨ev, S1, g1, x, sl1, w1, r1, h1⟩ => ⟨v, S1, g1, x, rfl, w1, r1, h1⟩⟩
  · obtain ⟨v, S1, g1, x, rfl, w1, r1, hh⟩ := q1
    split at hh
    case isFalse => exact hh.elim
    rename_i hins
    obtain ⟨nn, vv, hi⟩ := isInsB_ins hins
    obtain ⟨o, A', dx, xs, rfl, hc, ho, el, rs⟩ := ins_at w1 (RepB.weak r1) hi
    rw [h1] at hc; cases hc
    obtain ⟨u, rfl, ru⟩ := vals1 r
    · obtain rfl : u = Value.ref o := ru
      obtain ⟨mA, J, _⟩ := ins_get I1.hok ho
      obtain ⟨od, J, _⟩ := J.look
      obtain ⟨mm, hF⟩ := I1.fr
      refine PySem.W.len_K hF I1.ok.mod.kin J h3.at_ h3.fn ?_
      refine wpAny_mono (run_fnA (vs := [.ref o]) c.tk h6 c.sub1 h4 I1 (.cons rfl .nil) ⟨S1, g1, [x], w1, .one (RepB.str r1), rfl, aft_of (Aft.bind (R1 := RepB t true) hh)⟩) (fun z s2 hz => ?_) fun _ _ e => e
      obtain ⟨v2, H2, I2, rv, d, S2, g2, f2, w2, r2, h2⟩ := hz
      obtain ⟨d2, e2, q2⟩ := Aft.of h2
      unfold lenD at e2
      split at e2
      · rename_i n
        split at e2
        · rename_i hb
          cases e2
          simp only [Bool.and_eq_true, decide_eq_true_eq] at hb
          obtain rfl := (RepB.weak r2).int
          obtain ⟨tt, rfl⟩ := rv
          refine ⟨⟨hb.1, by omega⟩, .int n, H2, I2.tok _, ⟨_, rfl⟩, q2 _ _ _ (Frm.refl _ _) w2 (.of (by simp only [Rep]))⟩
        · cases e2
      · cases e2
/-- o[i], its own -/
theorem pe_idxOX (c : Ctx t tb T C k W s X) (G : Glob t tb T C k) {cc f : Nat} (hm : tb.mt cc f = some (("__getitem__" : Str), 2)) (ha : PE X a (rdE t W true fa)) (hb : PE X b (rdE t W true fb)) (hs : ∀ o i, subscripted b true o i = runValue (.builtin "lifetime.subscript" ⟨[o, i], []⟩)) :
    PE X (.Subscript a b pos) (rdE t W true fun ev S => (fa ev S).bind fun x S1 => (fb ev S1).bind fun y S2 => if isInsB S2 cc x then C.fn f [x, y] [] [] S2 else .bad) := by
  obtain ⟨A, q, fd, ps, h1, h2, h3, h4, h5, h6, h7, _⟩ := mt_at c G hm
  refine ⟨fun pins sh σ H Q I h => ?_⟩
  obtain ⟨ev, S, g, sl, w, h⟩ := rd_bind (R1 := RepB t true) h
  refine PyProof.Rows.Subscript_ (binT ha hb I (R := fun v u H2 => ∃ S2 g2 x y, Wld t S2 g2 H2 ∧ Rep t g2 x v ∧ Rep t g2 y u ∧ Aft t (fun c d H' => W c d σ H') (RepB t true) g2 H2 (if isInsB S2 cc x then C.fn f [x, y] [] [] S2 else .bad) Q) ?_ fun v u s2 x y H2 I2 rx ry q => ?_)
  · refine ⟨ev, S, g, sl, w, h.mono fun v H1 ⟨ev, S1, g1, x, sl1, w1, r1, h1⟩ => ?_⟩
    exact ⟨ev, S1, g1, sl1, w1, (Aft.bind (R1 := RepB t true) h1).mono fun u H2 ⟨y, S2, g2, f2, w2, r2, h2⟩ => ⟨S2, g2, x, y, w2, (RepB.str r1).frm f2, RepB.str r2, h2⟩⟩
  · obtain ⟨S2, g2, dx', dy', w2, r1, r2, hh⟩ := q
    split at hh
    case isFalse => exact hh.elim
    rename_i hins
    obtain ⟨nn, vv, hi⟩ := isInsB_ins hins
    obtain ⟨o, A', dx, xs, rfl, hc, ho, el, rs⟩ := ins_at w2 (.inl r1) hi
    rw [h1] at hc; cases hc
    obtain rfl : v = Value.ref o := rx
    obtain ⟨mA, J, _⟩ := ins_get I2.hok ho
    obtain ⟨od, J, _⟩ := J.look
    obtain ⟨mm, hF⟩ := I2.fr
    refine PySem.W.sub_K hF I2.ok.mod.kin J h3.at_ h7 h3.fn ?_ (hs _ _)
    exact run_fnA (vs := [.ref o, y]) c.tk h6 c.sub1 h4 I2 (.cons rfl (.cons ry .nil)) ⟨S2, g2, [dx', dy'], w2, .cons r1 (.one r2), rfl, aft_of hh⟩
/-- what an own == may be asked with: its type -/
theorem oth_type (c : Ctx t tb T C k W s X) {A : Addr} {nm : Str} (hX : ClsX t T A nm) {cc : Nat} (hA : t.ct cc = some A) {S : Store} {g : Gh} {H : Hp} {pins : List (Addr × Obj)} {σ : St} {sh : Shared} (I : Inv X pins σ H sh) (w : Wld t S g H) {y : D} {v : V} {u : Value} (r : Rep t g y v) (ru : RelV v u) (h : othB S cc y = true) :
    ∃ tv, PySem.W.Looks (model X.prog X.w) sh.heap (typeOf u) tv ∧ PySem.W.notFirst X.K A tv = true := by
  have hins : isInsB S cc y = true → ∃ tv, PySem.W.Looks (model X.prog X.w) sh.heap (typeOf u) tv ∧ PySem.W.notFirst X.K A tv = true := fun hins => by
    obtain ⟨nn, vv, hi⟩ := isInsB_ins hins
    obtain ⟨o, A', dx, xs, rfl, hc, ho, el, rs⟩ := ins_at w (.inl r) hi
    rw [hA] at hc; cases hc
    obtain rfl : u = Value.ref o := ru
    obtain ⟨mA, J, _⟩ := ins_get I.hok ho
    obtain ⟨od, J, _⟩ := J.look
    exact ⟨_, J.type, by simp [PySem.W.notFirst]⟩
  cases y with
  | tup l =>
    simp only [Rep] at r
    obtain ⟨o, xs, rfl, hq, rs⟩ := r
    obtain rfl : u = Value.ref o := ru
    obtain ⟨its, _, ⟨ob, ho, hcl, _⟩, _⟩ := I.tuple (by rw [c.hK]; exact sqT_mono w.sub hq)
    refine ⟨.type "tuple", hcl ▸ (PySem.W.Looks.ld ho).andThen .now, ?_⟩
    rw [c.hK]
    simp [PySem.W.notFirst, hX.ntup]
  | lst l =>
    simp only [Rep] at r
    obtain ⟨o, xs, rfl, hq, rs⟩ := r
    obtain rfl : u = Value.ref o := ru
    obtain ⟨its, _, ⟨ob, n, ho, hcl, _⟩, _⟩ := I.list (by rw [c.hK]; exact sqL_mono w.sub hq)
    refine ⟨.type "list", hcl ▸ (PySem.W.Looks.ld ho).andThen .now, ?_⟩
    rw [c.hK]
    simp [PySem.W.notFirst, hX.nlst]
  | tpf _ => exact hins (by simpa only [othB] using h)
  | dic => exact hins (by simpa only [othB] using h)
  | non => exact hins (by simpa only [othB] using h)
  | bl _ => exact hins (by simpa only [othB] using h)
  | int _ => exact hins (by simpa only [othB] using h)
  | str _ => exact hins (by simpa only [othB] using h)
  | ins _ _ _ => exact hins (by simpa only [othB] using h)
  | cel _ => exact hins (by simpa only [othB] using h)
/-- what the comparison wants -/
def rEqO (t : Tp) (C : Cl) (W : WX) (cc f : Nat) (neg : Bool) (σ : St) (v u : V) (H2 : Hp) (Q : VK) : Prop := ∃ S2 g2 x y, Wld t S2 g2 H2 ∧ Rep t g2 x v ∧ Rep t g2 y u ∧ Aft t (fun c d H' => W c d σ H') (RepB t true) g2 H2 (if isInsB S2 cc x && othB S2 cc y then (C.fn f [x, y] [] [] S2).bind fun r S3 => .of (blD neg r) S3 else .bad) Q
theorem eqOX_run (c : Ctx t tb T C k W s X) (G : Glob t tb T C k) {cc f : Nat} {nm : Str} (hm : tb.mt cc f = some (("__eq__" : Str), 2)) (hn : tb.cls cc = some nm) {pins : List (Addr × Obj)} {s2 : Shared} {σ : St} {H2 : Hp} {x y : V} {v u : Value} {Q : VK} (I2 : L2.Inv X pins σ H2 s2) (rx : RelV x v) (ry : RelV y u) (q : rEqO t C W cc f false σ x y H2 Q) :
    wpAny (model X.prog X.w) X.A (compareOp .Eq v u) (EP X pins σ Q) X.xe s2 := by
  obtain ⟨A, q', fd, ps, h1, h2, h3, h4, h5, h6, h7, _⟩ := mt_at c G hm
  obtain ⟨A', hA', hX⟩ := G.cls cc nm hn
  rw [h1] at hA'; cases hA'
  obtain ⟨S2, g2, dx', dy', w2, r1, r2, hh⟩ := q
  split at hh
  case isFalse => exact hh.elim
  rename_i hins
  simp only [Bool.and_eq_true] at hins
  obtain ⟨tv, lk, nf⟩ := oth_type c hX h1 I2 w2 r2 ry hins.2
  obtain ⟨nn, vv, hi⟩ := isInsB_ins hins.1
  obtain ⟨o, A', dx, xs, rfl, hc, ho, el, rs⟩ := ins_at w2 (.inl r1) hi
  rw [h1] at hc; cases hc
  obtain rfl : v = Value.ref o := rx
  obtain ⟨mA, J, _⟩ := ins_get I2.hok ho
  obtain ⟨od, J, _⟩ := J.look
  obtain ⟨mm, hF⟩ := I2.fr
  show wpAny _ _ (richCompare .Eq (.ref o) u) _ _ _
  refine PySem.W.cmp_K (op := .Eq) c.room.units0 hF I2.ok.mod.kin J lk nf h3.at_ h3.fn ?_
  refine wpAny_mono (run_fnA (vs := [.ref o, y]) c.tk h6 c.sub0 h4 I2 (.cons rfl (.cons ry .nil)) ⟨S2, g2, [dx', dy'], w2, .cons r1 (.one r2), rfl, aft_of (Aft.bind (R1 := RepB t true) hh)⟩) (fun z s3 hz => ?_) fun _ _ e => e
  obtain ⟨v2, H3, I3, rv, d, S3, g3, f3, w3, r3, h3'⟩ := hz
  obtain ⟨d2, e2, q2⟩ := Aft.of h3'
  unfold blD at e2
  split at e2
  · rename_i kk
    cases e2
    obtain rfl := (RepB.weak r3).bl
    obtain rfl : z = .bool kk := rv
    exact ⟨.bl kk, H3, I3, rfl, q2 _ _ _ (Frm.refl _ _) w3 (.of (by simp only [Rep]; simp))⟩
  · cases e2

end
end Mp

set_option Elab.async false
set_option linter.all false
set_option maxRecDepth 100000
set_option autoImplicit false
set_option maxHeartbeats 2000000
namespace Mp
open PySem PySem.Spec L2
section
variable {t : Tp} {tb : Tab} {T : Top} {C : Cl} {k : Nat} {W : WX} {s : Sc} {X : Cx} {pos : Pos} {a b : Expr} {fa fb : Den D} {ba bb : Bool}
/-- C(..), where the arguments bind as hb says -/
theorem run_makeA {A f : Addr} {fd : FuncData} {ps : List Str} {sp : Sp} {pins : List (Addr × Obj)} {σ : St} {H : Hp} {sh : Shared} {Q : VK} {us ws : List Value} {ks : List Str} {ys : List V} {us' : List Value} (tk : Takes X W) (M : Mk X.K A f) (F : FnOk X.prog X.w X.K X.mg X.base (L2.CX X.prog X.w) k f fd ps sp) (hr : Room (k + 1) X.A)
    (hb : ∀ (s : Shared) (x : Value), X.K.In s.heap → BindsTo s fd ⟨x :: us, ks.zip ws⟩ (ps.zip (x :: us'))) (I : Inv X pins σ H sh) (r : Vals ys us')
    (h : ∀ x dx, H x = none → H dx = none → dx ≠ x → sp (.ref x :: ys) (upd (upd H dx (.own x)) x (.ins A dx [])) (fun v H2 => v = .non ∧ Q (.ref x) H2) (WE W σ)) :
    wpAny (model X.prog X.w) X.A (call (.ref A) us (ks.zip ws)) (EP X pins σ Q) X.xe sh := by
  have hq := h (sh.heap.objs.size + 1) sh.heap.objs.size (I.hok.fresh (Nat.le_succ _)) (I.hok.fresh (Nat.le_refl _)) (Nat.ne_of_lt (Nat.lt_succ_self _))
  have I2 := Inv.made (C := A) I
  have r2 : Vals (V.ref (sh.heap.objs.size + 1) :: ys) (Value.ref (sh.heap.objs.size + 1) :: us') := .cons rfl r
  refine wpAny_call (make_map (f := f) I.kIn M.makes M.init (beq_iff_eq.mp M.fn) (codeAny_mono (F.run _ X.stack _ _ ⟨Value.ref (sh.heap.objs.size + 1) :: us, ks.zip ws⟩ (Value.ref (sh.heap.objs.size + 1) :: us') _ _ (WE W σ) (hr.make A us (ks.zip ws))
    (I2.env0.make A us (ks.zip ws)) (hb _ _ I2.kIn) r2 hq) fun r s' hq' => ?_))
  cases r with
  | error e => exact passAt tk σ pins _ _ e s' I2 hq'
  | ok fl =>
    cases fl with
    | ret u =>
      obtain ⟨v, H', I3, rv, ev, q3⟩ := I2.after hq'
      subst ev
      exact ⟨rv, ⟨V.ref (sh.heap.objs.size + 1), H', I3, rfl, q3⟩⟩
    | next => exact False.elim hq'
    | brk => exact False.elim hq'
    | cont => exact False.elim hq'
/-- what __init__ must promise for a new instance -/
theorem make_rd {c ini np : Nat} {A : Addr} (hA : t.ct c = some A) {S1 : Store} {g1 : Gh} {H1 : Hp} {l : List D} {ys : List V} {σ : St} {Q : VK} (w1 : Wld t S1 g1 H1) (rs : Reps t g1 l ys) (hn : l.length + 1 = np) (hh : Aft t (fun c d H' => W c d σ H') (RepB t true) g1 H1 (makeD C c ini l S1) Q) :
    ∀ x dx, H1 x = none → H1 dx = none → dx ≠ x → spF t C ini np (.ref x :: ys) (upd (upd H1 dx (.own x)) x (.ins A dx [])) (fun v H2 => v = .non ∧ Q (.ref x) H2) (WE W σ) := by
  intro x dx hx hdx ne
  have wd : Wld t S1 g1 (upd H1 dx (.own x)) := w1.fresh hdx
  have hx1 : upd H1 dx (.own x) x = none := by rw [upd_ne (Ne.symm ne)]; exact hx
  have wx : Wld t S1 g1 (upd (upd H1 dx (.own x)) x (.ins A dx [])) := wd.fresh hx1
  have fx : Frm g1 H1 g1 (upd (upd H1 dx (.own x)) x (.ins A dx [])) := (Frm.fresh w1 hdx).trans (Frm.fresh wd hx1)
  have w2 : Wld t (S1 ++ [.ins c [] []]) (g1.cell S1.length x) (upd (upd H1 dx (.own x)) x (.ins A dx [])) :=
    wx.addCell (w1.gfree hx) (w1.ifree hx) ⟨A, dx, [], hA, by rw [upd_same]; rfl, rfl, .nil⟩
  have f2 : Frm g1 H1 (g1.cell S1.length x) (upd (upd H1 dx (.own x)) x (.ins A dx [])) := fx.addCell wx hx
  refine ⟨S1 ++ [.ins c [] []], g1.cell S1.length x, .cel S1.length :: l, w2, .cons ?_ (rs.frm f2), by simpa using hn, ?_⟩
  · simp only [Rep]
    exact ⟨x, rfl, if_pos rfl⟩
  · unfold makeD at hh
    cases z : C.fn ini (.cel S1.length :: l) [] [] (S1 ++ [.ins c [] []]) with
    | exc e S2 =>
      rw [z] at hh
      exact fun cls d H' g' f' w' r' => hh cls d H' g' (f2.trans f') w' r'
    | bad => rw [z] at hh; exact hh.elim
    | ok r S2 =>
      rw [z, Out.bind_ok] at hh
      intro v H3 g3 f3 w3 rv
      split at hh
      case h_2 => exact hh.elim
      rename_i c' ns vs hs
      split at hh
      case isFalse => exact hh.elim
      rename_i hcc
      obtain rfl := eq_of_beq hcc
      simp only [Rep] at rv
      refine ⟨rv, ?_⟩
      have hi : g3.io S1.length = some x := f3.leI _ _ (if_pos rfl)
      obtain ⟨x', e1, hG, A', dx', xs, hc, ho, el, r3⟩ := w3.cel _ _ hs
      rw [hi] at e1; cases e1
      have hG := hG rfl
      refine hh (.ref x) H3 (g3.add x _) ((f2.trans f3).freeze hx hG) (w3.seal hi hs rfl ho) (.of ?_)
      simp only [Rep]
      exact ⟨x, A', dx', xs, rfl, hc, upd_same, el, Reps.mono (Frm.add w3 ho hG).1 (fun _ _ q => q) _ _ r3⟩
/-- C(e, ..) -/
theorem pe_mkX (c : Ctx t tb T C k W s X) (G : Glob t tb T C k) {cc ini np : Nat} {nm : Str} {e : Expr} {es : List Expr} {bs : List Bool} {fs : Den (List D)} {p : Pos} (hm : tb.mt cc ini = some (("__init__" : Str), np)) (hn : tb.cls cc = some nm) (hk : kindB s nm .globalImplicit = true) (hd : (nm == ("__debug__" : Str)) = false) (hb : bs.all id = true) (hl : bs.length + 1 = np)
    (ha : PA X (e :: es) (rdA t W bs fs)) (ns : ∀ x ∈ e :: es, ∀ v p, x ≠ .Starred v p) :
    PE X (.Call (.Name nm p) (e :: es) [] pos) (rdE t W true fun ev S => (fs ev S).bind fun l S1 => makeD C cc ini l S1) := by
  obtain ⟨A, q, fd, ps, h1, h2, h3, h4, h5, h6, h7, _⟩ := mt_at c G hm
  obtain ⟨A', hA', hX⟩ := G.cls cc nm hn
  rw [h1] at hA'; cases hA'
  have M : Mk X.K A q := ⟨by rw [c.hK]; exact hX.makes, h3.at_, h3.fn, by rw [c.hK]; exact hX.kp⟩
  refine ⟨fun pins sh σ H Q I h => ?_⟩
  obtain ⟨ev, S, g, sl, w, h⟩ := rd_bind (R1 := fun H g ds xs => RepsX t H g bs ds xs) h
  refine wpAny_Call_Name_kw (ld_glob I (c.gl hk) (by rw [c.hg]; exact hX.mg) ?_ hd)
  refine PySem.W.callWith_K (h₀ := X.base) I.ok.mod.kin M.kp (thn (ha.run pos pins sh σ H _ I ⟨ev, S, g, sl, w, h⟩) fun us s1 ⟨vs, H1, I1, r, q1⟩ => ⟨I1.kIn, ?_⟩) (star1 (ns e List.mem_cons_self)) (starN fun e he => ns e (List.mem_cons_of_mem _ he))
  obtain ⟨ev, S1, g1, l, sl1, w1, r1, hh⟩ := q1
  have rs := RepsX.strong hb r1
  have hll : l.length + 1 = np := by rw [← (RepsX.len r1).1]; exact hl
  refine run_makeA (ks := []) (ws := []) c.tk M h6 c.room (fun s x hK => ?_) I1 r (make_rd h1 w1 rs hll hh)
  have hlen : (x :: us).length = ps.length := by rw [List.length_cons, ← r.length, ← rs.len, h5]; exact hll
  have bd := h4 s (x :: us) hK (by rw [List.append_nil]; exact hlen)
  rw [List.append_nil] at bd
  exact bd
theorem permL_rep {g : Gh} {l : List D} {zs : List V} (r : Reps t g l zs) : ∀ {perm : List Nat} {l' : List D}, permL l perm = some l' → Reps t g l' (perm.filterMap (zs[·]?)) ∧ l'.length = perm.length
  | [], l', h => by
    simp only [permL] at h
    cases h
    exact ⟨.nil, rfl⟩
  | i :: perm, l', h => by
    simp only [permL] at h
    split at h
    · rename_i x q h1 h2
      cases h
      obtain ⟨v, e, rv⟩ := r.get h1
      obtain ⟨rq, lq⟩ := permL_rep r h2
      rw [List.filterMap_cons, e]
      exact ⟨.cons rv rq, by rw [List.length_cons, List.length_cons, lq]⟩
    · cases h
theorem pk_nilX : PK X [] (rdA t W [] fun _ S => .ok [] S) := by
  refine ⟨fun pos pins sh σ H Q I h => pk_nil.run pos pins sh σ H Q I ?_⟩
  obtain ⟨ev, S, g, sl, w, h⟩ := h
  exact h [] H g (Frm.refl _ _) w trivial
theorem pk_consX {kws : List Keyword} {nm : Option Str} {kpos : Pos} {bs : List Bool} {fs : Den (List D)} (ha : PE X a (rdE t W ba fa)) (hr : PK X kws (rdA t W bs fs)) :
    PK X (⟨nm, a, kpos⟩ :: kws) (rdA t W (ba :: bs) fun ev S => (fa ev S).bind fun x S1 => (fs ev S1).bind fun l S2 => .ok (x :: l) S2) := by
  refine ⟨fun pos pins sh σ H Q I h => (pk_cons ha hr).run pos pins sh σ H Q I ?_⟩
  obtain ⟨ev, S, g, sl, w, h⟩ := rd_bind (R1 := RepB t ba) h
  refine ⟨ev, S, g, sl, w, h.mono fun v H1 ⟨ev, S1, g1, x, sl1, w1, r1, h1⟩ => ?_⟩
  refine ⟨ev, S1, g1, sl1, w1, (Aft.bind (R1 := fun H g ds xs => RepsX t H g bs ds xs) h1).mono fun u H2 ⟨y, S2, g2, f2, w2, r2, h2⟩ => ?_⟩
  exact h2 _ _ _ (Frm.refl _ _) w2 ⟨RepB.frm f2 r1, r2⟩
/-- C(k=e, ..) -/
theorem pe_mkKX (c : Ctx t tb T C k W s X) (G : Glob t tb T C k) {cc ini np : Nat} {nm : Str} {kws : List Keyword} {ks : List Str} {perm : List Nat} {bs : List Bool} {fs : Den (List D)} {p : Pos} (hm : tb.mt cc ini = some (("__init__" : Str), np)) (hn : tb.cls cc = some nm) (hk : kindB s nm .globalImplicit = true) (hd : (nm == ("__debug__" : Str)) = false) (hb : bs.all id = true) (hl : bs.length = ks.length) (hkw : (cc, ini, ks, perm) ∈ tb.kw)
    (ha : PK X kws (rdA t W bs fs)) (hall : (backToKw pos (keywordEach kws X.env)).all (·.1.isSome) = true) (hks : (backToKw pos (keywordEach kws X.env)).filterMap (·.1) = ks)
    (hpl : ((backTo pos (starEach [] X.env)).any (·.1) || (backToKw pos (keywordEach kws X.env)).any (·.1.isNone)) = false) :
    PE X (.Call (.Name nm p) [] kws pos) (rdE t W true fun ev S => (fs ev S).bind fun l S1 => match permL l perm with | some l' => makeD C cc ini l' S1 | none => .bad) := by
  obtain ⟨A, q, fd, ps, h1, h2, h3, h4, h5, h6, h7, h8⟩ := mt_at c G hm
  obtain ⟨kb, kl, pl⟩ := h8 ks perm hkw
  obtain ⟨A', hA', hX⟩ := G.cls cc nm hn
  rw [h1] at hA'; cases hA'
  have M : Mk X.K A q := ⟨by rw [c.hK]; exact hX.makes, h3.at_, h3.fn, by rw [c.hK]; exact hX.kp⟩
  refine ⟨fun pins sh σ H Q I h => ?_⟩
  obtain ⟨ev, S, g, sl, w, h⟩ := rd_bind (R1 := fun H g ds xs => RepsX t H g bs ds xs) h
  refine wpAny_Call_Name_kw (ld_glob I (c.gl hk) (by rw [c.hg]; exact hX.mg) ?_ hd)
  refine PySem.W.callWith_KW0 (h₀ := X.base) I.ok.mod.kin M.kp hall ?_ hpl
  refine thn (ha.run pos pins sh σ H _ I ⟨ev, S, g, sl, w, h⟩) fun ws s1 ⟨zs, H1, I1, r, q1⟩ => ⟨I1.kIn, ?_⟩
  rw [hks]
  obtain ⟨ev, S1, g1, l, sl1, w1, r1, hh⟩ := q1
  have rs := RepsX.strong hb r1
  cases z : permL l perm with
  | none => rw [z] at hh; exact hh.elim
  | some l' =>
    rw [z] at hh
    obtain ⟨rp, lp⟩ := permL_rep rs z
    have rv : Vals (perm.filterMap (zs[·]?)) (perm.filterMap (ws[·]?)) := by
      have := kb.rel (vs := []) (us := []) .nil r
      simpa using this
    refine run_makeA (us := []) (us' := perm.filterMap (ws[·]?)) c.tk M h6 c.room (fun s x hK => ?_) I1 rv (make_rd h1 w1 rp (by rw [lp]; exact pl) hh)
    have hlen : ws.length = ks.length := by rw [← r.length, ← (RepsX.len r1).2]; exact hl
    have := kb.to s [x] ws hK rfl hlen
    simpa using this
theorem run_fnNS {CX : CXT} {n : Nat} {f : Addr} {fd : FuncData} {ps ks : List Str} {sp : Sp} {E : St → XK} {g : List Value → List Value → List Value} {gV : List V → List V → List V} {pins : List (Addr × Obj)} {σ : St} {H : Hp} {s : Shared} {Q : VK} {us ws : List Value} {vs zs : List V} (F : FnOk X.prog X.w X.K X.mg X.base CX k f fd ps sp) (hr : Room k X.A) (hb : KBn X.K fd ps n ks g gV) (hx : PassesAt CX X σ (E σ))
    (I : Inv X pins σ H s) (r : Vals vs us) (rz : Vals zs ws) (l1 : vs.length = n) (l2 : zs.length = ks.length) (h : sp (gV vs zs) H Q (E σ)) : wpAny (model X.prog X.w) X.A (call (.ref f) us (ks.zip ws)) (EP X pins σ Q) X.xe s := by
  have r2 := hb.rel r rz
  refine wpAny_call (codeAny_mono (F.run X.A X.stack s H ⟨us, ks.zip ws⟩ (g us ws) (gV vs zs) Q (E σ) hr I.env0 (hb.to s us ws I.kIn (r.length.symm.trans l1) (rz.length.symm.trans l2)) r2 h) fun r s' hq => ?_)
  cases r with
  | error e => exact hx pins H s e s' I hq
  | ok fl =>
    cases fl with
    | ret u => exact I.after hq
    | next => exact False.elim hq
    | brk => exact False.elim hq
    | cont => exact False.elim hq
/-- f(k=e, ..) -/
theorem pe_callK0X (c : Ctx t tb T C k W s X) (G : Glob t tb T C k) {f np : Nat} {nm : Str} {kws : List Keyword} {ks : List Str} {perm : List Nat} {bs : List Bool} {fs : Den (List D)} {p : Pos} (hf : tb.fn f = some (nm, np)) (hk : kindB s nm .globalImplicit = true) (hd : (nm == ("__debug__" : Str)) = false) (hb : bs.all id = true) (hl : bs.length = ks.length) (hkf : (f, 0, ks, perm) ∈ tb.kf)
    (ha : PK X kws (rdA t W bs fs)) (hall : (backToKw pos (keywordEach kws X.env)).all (·.1.isSome) = true) (hks : (backToKw pos (keywordEach kws X.env)).filterMap (·.1) = ks)
    (hpl : ((backTo pos (starEach [] X.env)).any (·.1) || (backToKw pos (keywordEach kws X.env)).any (·.1.isNone)) = false) :
    PE X (.Call (.Name nm p) [] kws pos) (rdE t W true fun ev S => (fs ev S).bind fun l S1 => match permL l perm with | some l' => C.fn f l' [] [] S1 | none => .bad) := by
  obtain ⟨A, fd, ps, h1, h2, h3, h4, h5, h6⟩ := (G.fn f nm np hf).ex
  obtain ⟨kb, kl, pl⟩ := h6 0 ks perm hkf
  have F : FnOk X.prog X.w X.K X.mg X.base (L2.CX X.prog X.w) k A fd ps (spF t C f np) := by
    rw [c.hP, c.hw, c.hK, c.hg, c.hb]; exact h5
  refine ⟨fun pins sh σ H Q I h => ?_⟩
  obtain ⟨ev, S, g, sl, w, h⟩ := rd_bind (R1 := fun H g ds xs => RepsX t H g bs ds xs) h
  refine wpAny_Call_Name_kw (ld_glob I (c.gl hk) (by rw [c.hg]; exact h1) ?_ hd)
  refine PySem.W.callWith_KW0 (h₀ := X.base) I.ok.mod.kin (by rw [c.hK]; exact h2) hall ?_ hpl
  refine thn (ha.run pos pins sh σ H _ I ⟨ev, S, g, sl, w, h⟩) fun ws s1 ⟨zs, H1, I1, r, q1⟩ => ⟨I1.kIn, ?_⟩
  rw [hks]
  obtain ⟨ev, S1, g1, l, sl1, w1, r1, hh⟩ := q1
  have rs := RepsX.strong hb r1
  cases z : permL l perm with
  | none => rw [z] at hh; exact hh.elim
  | some l' =>
    rw [z] at hh
    obtain ⟨rp, lp⟩ := permL_rep rs z
    refine run_fnNS (us := []) (vs := []) F (c.room.mono (Nat.le_succ k)) (by rw [c.hK]; exact kb) (passAt c.tk σ) I1 .nil r rfl (by rw [← (RepsX.len r1).2]; exact hl) ?_
    refine ⟨S1, g1, l', w1, by simpa using rp, by rw [lp]; omega, ?_⟩
    cases z2 : C.fn f l' [] [] S1 with
    | ok d S2 => simp only [z2] at hh; exact fun v H' g' f' w' r => hh v H' g' f' w' (.of r)
    | exc e S2 => simp only [z2] at hh; exact hh
    | bad => simp only [z2] at hh; exact hh.elim
end
end Mp

set_option Elab.async false
set_option linter.all false
set_option maxRecDepth 100000
set_option autoImplicit false
set_option maxHeartbeats 2000000
/-! Lambdas: their making. -/
namespace Mp
open PySem PySem.Spec PyProof.Rows L2
/-- what the making of a lambda does to the heap that is told: nothing, or a new code object and its line in the table -/
def LamH (H : Hp) (P : Addr) (q : Str) (ps : Array Value) (H1 : Hp) (c : Addr) : Prop :=
  (H1 = H ∧ ∃ pos, codeAmong pos ps.toList = some (.ref c)) ∨
  (H c = none ∧ ∃ ps' : Array Value, H1 = upd (upd H P (.tbl ps')) c (LamX.CodeO c q) ∧ TriplesOk ps'.toList ∧ ∀ (p' : Pos) (cv : Value), codeAmong p' ps'.toList = some cv → codeAmong p' ps.toList = some cv ∨ cv = .ref c)
section
variable {X : Cx} {pins : List (Addr × Obj)} {σ : L2.St} {H : Hp} {s : Shared}
theorem lam_makeX {c P : Addr} {ps : Array Value} {params : Arguments} {body : Expr} {scope : Scope} {pos : Pos} {E : Value → Shared → Prop} {Q : Value → Shared → Prop} (I : Inv X pins σ H s) (TB : LamX.TabB X.base X.mg c P) (hcd : X.env.code = .ref c)
    (hP : H P = some (.tbl ps)) (ht : TriplesOk ps.toList) (ha : ∀ (p' : Pos) (cv : Value), codeAmong p' ps.toList = some cv → ∃ d, cv = .ref d ∧ H d = some (LamX.CodeO d (X.env.qual ++ "<lambda>")))
    (hdf : defaultsOf params X.env = ([], [])) (hfr : ∀ y ∈ scope.names, y.2 = .free → ∃ d, X.env.cells.lookup y.1 = some d)
    (go : ∀ (f d : Addr) (pm ctv : Value) (H1 : Hp) (s' : Shared), Inv X pins σ H1 s' → LamH H P (X.env.qual ++ "<lambda>") ps H1 d →
      s'.heap.get? f = some (PySem.W.kla_obj "<lambda>" (X.env.qual ++ "<lambda>") params body scope (cloFrom X.env.cells scope.names []) pm d ctv) → H1 f = none → f ∉ frs X.stack → H1 d = some (LamX.CodeO d (X.env.qual ++ "<lambda>")) → Q (.ref f) s') :
    wpAny (model X.prog X.w) X.A (eval (.Lambda params body scope pos) X.env) Q E s := by
  have hbP : s.heap.BuiltinsAt X.mg P := TB.bm.keeps I.bk
  have hPo : s.heap.get? P = some { cls := .none, data := .fields ps } := I.hok P _ hP
  have hout : ∀ f : Addr, s.heap.objs.size ≤ f → f ∉ frs X.stack := by
    intro f hf z
    rcases List.mem_cons.mp (I.stkSub _ z) with e | e
    · have hlt := I.lt
      rw [← e] at hlt
      exact absurd hlt (Nat.not_lt.mpr hf)
    · exact I.nofs hf e
  refine PySem.W.kla_eval hdf ?_
  rcases hc : codeAmong pos ps.toList with _ | cv
  · refine PySem.W.kla_makeFunction (mg := X.mg) (c := c) (P := P) (ps := ps) (closure_ok hfr) I.ok.glob (I.mod.glob.keeps I.bk) hcd (TB.code.keeps I.bk) hPo ht hc TB.gP hbP ?_
    intro d ctv h' tk hx hge hlt hrec htb
    obtain ⟨d', oc, vs, t, e2, hoc, hd, hv⟩ := hrec
    obtain rfl : d = d' := by injection e2
    have hn : H d = none := I.hok.fresh hge
    have hle : s.heap.objs.size ≤ h'.objs.size := by omega
    have J := LamX.inv_table (t' := tk) (more := #[rawInt pos.line, rawInt pos.col, .ref d]) (h' := h'.push (PySem.W.kla_obj "<lambda>" (X.env.qual ++ "<lambda>") params body scope (cloFrom X.env.cells scope.names []) ((X.mg "__name__").getD .none) d ctv))
      I hP (fun b o hb e => Heap.get?_push_of_some _ (hx b o hb e)) (Heap.get?_push_of_some _ htb) hge ⟨oc, vs, t, Heap.get?_push_of_some _ hoc, hd, hv⟩
    have eL : (ps ++ #[rawInt pos.line, rawInt pos.col, .ref d]).toList = ps.toList ++ [rawInt pos.line, rawInt pos.col, .ref d] := Array.toList_append
    have nf : h'.objs.size ≠ d := by omega
    have nP : h'.objs.size ≠ P := Nat.ne_of_gt (Nat.lt_of_lt_of_le (Heap.lt_size hPo) hle)
    exact go h'.objs.size d ((X.mg "__name__").getD .none) ctv _ _ J (.inr ⟨hn, _, rfl, by rw [eL]; exact PySem.TriplesOk_snoc _ _ _ _ ht, fun p' cv e => LamX.among_app _ ht (by rw [← eL]; exact e)⟩) (Heap.get?_push_size _ rfl)
      (by rw [upd_ne nf, upd_ne nP]; exact I.hok.fresh hle) (hout _ hle) upd_same
  · obtain ⟨d, rfl, hco⟩ := ha pos cv hc
    refine PySem.W.kla_makeFunctionHit (mg := X.mg) (c := c) (P := P) (ps := ps) (closure_ok hfr) I.ok.glob (I.mod.glob.keeps I.bk) hcd (TB.code.keeps I.bk) hPo ht hc hbP ?_
    intro ctv h' tk hx hsz
    have J : Inv X pins σ H { s with heap := h'.push (PySem.W.kla_obj "<lambda>" (X.env.qual ++ "<lambda>") params body scope (cloFrom X.env.cells scope.names []) ((X.mg "__name__").getD .none) d ctv), toks := tk } := I.kept fun b o e => Heap.get?_push_of_some _ (hx b o e)
    exact go h'.objs.size d ((X.mg "__name__").getD .none) ctv H _ J (.inl ⟨rfl, pos, hc⟩) (Heap.get?_push_size _ rfl) (I.hok.fresh hsz) (hout _ hsz) hco
end
/-! ### the ghost behind it -/
section
variable {t : Tp} {S : Store} {g : Gh} {H : Hp}
theorem codeO_nt {c : Addr} {q : Str} : ∀ ps, LamX.CodeO c q ≠ .tbl ps := LamX.codeO_ne
theorem Wld.tabSet (w : Wld t S g H) {P : Addr} {q : Str} (hm : (P, q) ∈ t.tabs) (hu : ∀ p ∈ t.tabs, ∀ r ∈ t.tabs, p.1 = r.1 → p.2 = r.2) {ps : Array Value} (ht : TriplesOk ps.toList)
    (ha : ∀ (p' : Pos) (cv : Value), codeAmong p' ps.toList = some cv → ∃ d, cv = .ref d ∧ g.G d = some (LamX.CodeO d q)) : Wld t S g (upd H P (.tbl ps)) where
  sub := fun a u e => by
    rw [upd_ne (fun z => by rw [z, (w.tab _ hm).1] at e; cases e)]; exact w.sub a u e
  cel := fun n c e => by
    obtain ⟨a, e1, e2, e3⟩ := w.cel n c e
    have ne : a ≠ P := fun z => (w.tab _ hm).2.1 n (by rw [e1, z])
    refine ⟨a, e1, e2, ?_⟩
    cases c with
    | lst l => obtain ⟨xs, q, r⟩ := e3; exact ⟨xs, by rw [upd_ne ne]; exact q, r⟩
    | ins c ns vs => obtain ⟨C, dx, xs, hc, q, el, r⟩ := e3; exact ⟨C, dx, xs, hc, by rw [upd_ne ne]; exact q, el, r⟩
    | dct _ => obtain ⟨kvs, q, ek, r⟩ := e3; exact ⟨kvs, by rw [upd_ne ne]; exact q, ek, r⟩
    | gone => obtain ⟨o', q⟩ := e3; exact ⟨o', by rw [upd_ne ne]; exact q⟩
  len := w.len
  inj := w.inj
  tab := fun p hp => by
    by_cases hP : p.1 = P
    · have hq : p.2 = q := hu p hp (P, q) hm hP
      obtain ⟨h1, h2, _⟩ := w.tab p hp
      refine ⟨h1, h2, ps, by rw [hP, upd_same], ht, ?_⟩
      rw [hq]; exact ha
    · exact (w.tab p hp).mono (w.tab p hp).1 (w.tab p hp).2.1 (upd_ne hP) fun _ _ e => e
theorem Frm.tabSet {P : Addr} {ps0 ps : Array Value} (h : H P = some (.tbl ps0)) : Frm g H g (upd H P (.tbl ps)) where
  leG := fun _ _ e => e
  leI := fun _ _ e => e
  keep := fun a o e _ nt => by rw [upd_ne (fun z => by rw [z, h] at e; cases e; exact nt _ rfl)]; exact e
  newG := fun _ _ e => .inl e
  newI := fun _ _ e => .inl e
  live := fun a e => by
    by_cases ha : a = P
    · rw [ha, upd_same]; simp
    · rw [upd_ne ha]; exact e
/-- a lambda is made: what is told of the heap goes on -/
theorem lam_ghost (w : Wld t S g H) {P : Addr} {q : Str} (hm : (P, q) ∈ t.tabs) (hu : ∀ p ∈ t.tabs, ∀ r ∈ t.tabs, p.1 = r.1 → p.2 = r.2) {ps : Array Value} (hP : H P = some (.tbl ps)) {H1 : Hp} {c : Addr} (h : LamH H P q ps H1 c) :
    ∃ g1, Frm g H g1 H1 ∧ Wld t S g1 H1 ∧ g1.G c = some (LamX.CodeO c q) := by
  obtain ⟨hG, hi, ps0, e0, t0, a0⟩ := w.tab _ hm
  have e0' : H P = some (.tbl ps0) := e0
  rw [hP] at e0'
  obtain rfl : ps = ps0 := by injection e0' with z; injection z
  rcases h with ⟨rfl, pos, e⟩ | ⟨hn, ps', rfl, ht, ha⟩
  · obtain ⟨d, e1, e2⟩ := a0 pos _ e
    cases e1
    exact ⟨g, Frm.refl _ _, w, e2⟩
  · have nP : P ≠ c := fun z => by rw [z, hn] at hP; cases hP
    have ec : upd (upd H P (.tbl ps')) c (LamX.CodeO c q) = upd (upd H c (LamX.CodeO c q)) P (.tbl ps') := by
      funext b
      by_cases hb : b = c
      · rw [hb, upd_same, upd_ne (Ne.symm nP), upd_same]
      · rw [upd_ne hb]
        by_cases hb2 : b = P
        · rw [hb2, upd_same, upd_same]
        · rw [upd_ne hb2, upd_ne hb2, upd_ne hb]
    have w1 : Wld t S (g.add c (LamX.CodeO c q)) (upd H c (LamX.CodeO c q)) := w.new hn codeO_nt
    have hc1 : (g.add c (LamX.CodeO c q)).G c = some (LamX.CodeO c q) := upd_same
    refine ⟨g.add c (LamX.CodeO c q), ?_, ?_, hc1⟩
    · rw [ec]
      exact (Frm.new w hn).trans (Frm.tabSet (ps0 := ps) (by rw [upd_ne nP]; exact hP))
    · rw [ec]
      refine w1.tabSet hm hu ht fun p' cv e => ?_
      rcases ha p' cv e with z | z
      · obtain ⟨d, e1, e2⟩ := a0 p' cv z
        exact ⟨d, e1, (Frm.new w hn).leG _ _ e2⟩
      · exact ⟨c, z, hc1⟩
end
/-! ### its call, in the def that was handed it -/
section
variable {X : Cx} {pins : List (Addr × Obj)} {σ : L2.St} {H : Hp} {s : Shared}
theorem pe_actX {E0 : XK} {N : List Str} {qual a : Str} {sc scope : Scope} {ga f d : Addr} {cdv pm ctv : Value} {params : Arguments} {body : Expr} {k : Nat} {pn : List (Addr × Obj)} {xe : Value → Shared → Prop} {W : WX} {tb : XK → TE} {p1 p2 : Pos}
    (I : Inv X pins σ H s) (L : LamX.LamS X.env.scope scope) (hf : s.heap.get? f = some (PySem.W.kla_obj "<lambda>" (X.env.qual ++ "<lambda>") params body scope (cloFrom X.env.cells scope.names []) pm d ctv)) (hfn : H f = none) (hfr : f ∉ frs X.stack)
    (hb0 : bindArgs (PySem.W.kla_fn "<lambda>" (X.env.qual ++ "<lambda>") params body scope (cloFrom X.env.cells scope.names []) pm (.ref d) ctv) ⟨[], []⟩ = pure [])
    (tk : Takes ((cxOf (L2.CX X.prog X.w) X.prog X.w X.K X.mg X.base N qual sc ga cdv X.A X.stack s H E0).tr pn xe) W) (hr : Room (k + 1) (X.A.deeper (envOfC qual sc s.heap.objs.size ga cdv)))
    (hbody : ∀ (A : Around) (outer : List Env) (s : Shared) (H : Hp) (E : XK), Room k (A.deeper (LamX.lamEnv X scope s.heap.objs.size f d)) → PE (LamX.lamCx X A outer s H E scope f d) body (tb E))
    (hN : N[0]? = some a) (hv : Vis sc a) (h1 : (a == ("__debug__" : Str)) = false) (h2 : (a == ("__classdict__" : Str)) = false) :
    PE ((cxOf (L2.CX X.prog X.w) X.prog X.w X.K X.mg X.base N qual sc ga cdv X.A X.stack s H E0).tr pn xe) (.Call (.Name a p1) [] [] p2)
      (fun σZ HZ Q => σZ[0]? = some (some (.ref f)) ∧ HZ d = some (LamX.CodeO d (X.env.qual ++ "<lambda>")) ∧ tb (fun cls dd H2 => W cls dd σZ H2) σ HZ Q) := by
  refine ⟨fun pinsZ sZ σZ HZ Q IZ hq => ?_⟩
  obtain ⟨q1, q2, q3⟩ := hq
  refine wpAny_Call_Name_kw (thn ((pe_var (pos := p1) (i := 0) hN hv h1 h2).run pinsZ sZ σZ HZ (fun v H1 => v = .ref f ∧ H1 = HZ) IZ ⟨.ref f, q1, rfl, rfl⟩) ?_)
  rintro u s1 ⟨v, H1, I1, r1, rfl, eH⟩
  subst eH
  obtain rfl : u = Value.ref f := r1
  have hf1 := I1.base.keep f _ hf hfn hfr (fun z => nomatch (show f ∈ ([] : List Addr) from z))
  refine PySem.W.callWith_F0 ⟨_, _, _, _, hf1⟩ ?_
  have un : Un (frs X.stack) [] H H1 s.heap s1.heap := I1.base
  obtain ⟨⟨oc, vs, tq, hoc, hdc, hvc⟩, _, _⟩ := I1.hok d _ q2
  refine wpAny_call (codeAny_mono (R := CR (L2.CX X.prog X.w) (envOfC qual sc s.heap.objs.size ga cdv :: X.stack) X.prog X.w H1 s1 Q (fun cls dd H2 => W cls dd σZ H2)) ?_ fun r s' hq => ?_)
  · refine PySem.W.kla_callFunE hr.depth hf1 rfl L.co L.gen rfl ⟨d, oc, vs, tq, rfl, hoc, hdc, hvc⟩ ?_
    have hb1 : bindArgs (PySem.W.kla_fn "<lambda>" (X.env.qual ++ "<lambda>") params body scope (cloFrom X.env.cells scope.names []) pm (.ref d) ctv) ⟨[] ++ [], []⟩ = pure [] := hb0
    rw [hb1]
    refine wpAny_pure (wpAny_newFunctionEnv (fun y hy => (L.own y hy).2) (fun y hy => nomatch hy) (fun h₁ hns hsb => ⟨I1.nolimit.fresh _ hsb, ?_⟩) L.kind)
    have kp : ∀ b o, s1.heap.get? b = some o → h₁.get? b = some o := fun b o e => hsb.extBut b o (Nat.ne_of_lt (Heap.lt_size e)) (Heap.get?_push_of_some _ e)
    have J := LamX.lam_start2 (scope := scope) (f := f) (c' := d) (A := X.A.deeper (envOfC qual sc s.heap.objs.size ga cdv)) (outer := envOfC qual sc s.heap.objs.size ga cdv :: X.stack) (E := fun cls dd H2 => W cls dd σZ H2) (tk := s1.toks + ([] : List (Str × Value)).length) I L I1.env0 hr.hd un hns kp
    refine PySem.W.kla_codeExpr (wpAny_mono ((hbody _ _ s1 H1 _ (hr.deeper _)).run [] _ _ H1 Q J q3) ?_ fun _ _ z => z)
    rintro v s' ⟨w', H', J', rv, q⟩
    exact ⟨w', H', J'.os, J'.bare, J'.base, J'.hok, rv, q⟩
  · rcases r with e | fl
    · exact passAt tk σZ pinsZ H1 s1 e s' I1 hq
    · cases fl with
      | ret u => exact I1.after hq
      | next => exact hq.elim
      | brk => exact hq.elim
      | cont => exact hq.elim
end
section
variable {t : Tp} {tb : Tab} {T : Top} {C : Cl} {k : Nat} {W : WX} {s : Sc} {X : Cx}
theorem capE_at {ev : Ev} {j : Nat} {x : Sl} (h : (capE ev)[j]? = some x) : x = .no ∨ ∃ d, x = .va d ∧ ev[j]? = some (.va d) := by
  unfold capE at h
  rw [List.getElem?_map] at h
  cases e : ev[j]? with
  | none => rw [e] at h; cases h
  | some y =>
    rw [e] at h
    cases y with
    | va d => cases h; exact .inr ⟨d, rfl, rfl⟩
    | no => cases h; exact .inl rfl
    | ow l => cases h; exact .inl rfl
    | th => cases h; exact .inl rfl
theorem Slots.cap {ev : Ev} {g : Gh} {σ : L2.St} {H : Hp} (sl : Slots t ev g σ H) : CapOk t g (capE ev) σ := by
  refine ⟨by unfold capE; rw [List.length_map]; exact sl.len, fun j x e => ?_⟩
  rcases capE_at e with z | ⟨d, e1, e2⟩
  · exact .inl z
  · obtain ⟨v, q, r⟩ := sl.at' j _ e2
    exact .inr ⟨d, v, e1, q, r⟩
theorem CapOk.slots {ev : Ev} {g : Gh} {σ : L2.St} (h : CapOk t g ev σ) (H : Hp) : Slots t ev g σ H where
  len := h.1
  at' := fun j x e => by
    rcases h.2 j x e with z | ⟨d, v, e1, q, r⟩
    · subst z; trivial
    · subst e1; exact ⟨v, q, r⟩
  dis := fun i j l l' p e _ _ _ => by
    rcases h.2 i _ e with z | ⟨d, v, e1, _⟩
    · cases z
    · cases e1
theorem lamS_kd {sc scope : Scope} (L : LamX.LamS sc scope) {x : Str} : scope.names.lookup x ≠ some .cell := fun e => (L.own _ (PySem.mem_of_lookup e)).2 rfl
/-- in a lambda -/
theorem Ctx.lam (c : Ctx t tb T C k W s X) {scope : Scope} (L : LamX.LamS X.env.scope scope) (A : Around) (outer : List Env) (sh : Shared) (H : Hp) (E : XK) (f d : Addr) (hr : Room (k + 1) (A.deeper (LamX.lamEnv X scope sh.heap.objs.size f d))) :
    Ctx t tb T C k (fun cls dd _ H2 => E cls dd H2) ⟨s.N, scope, false, false⟩ (LamX.lamCx X A outer sh H E scope f d) where
  hK := c.hK
  hP := c.hP
  hw := c.hw
  hg := c.hg
  hb := c.hb
  hN := c.hN
  nd := c.nd
  kd := fun x q h => .inl h
  sk := L.kind
  calm := rfl
  room := hr
  own := passes_of rfl
  tk := takes_of rfl rfl rfl rfl
  st := fun x h => absurd h (lamS_kd L)
  lm := fun h => nomatch h
  thk := fun h => nomatch h
/-- what the checker asks of a lambda's scope, as the maker's scope is written -/
def lamChk (sc scope : Scope) : Bool := LamX.lamSB sc scope
def noPar : Arguments → Bool
  | ⟨[], [], none, [], [], none, []⟩ => true
  | _ => false
theorem lamS_to (c : Ctx t tb T C k W s X) {scope : Scope} (h : lamChk s.sc scope = true) : LamX.LamS X.env.scope scope := by
  have L := LamX.lamS_by h
  refine ⟨L.kind, L.co, L.gen, L.own, fun y hy e => ?_⟩
  have hk : ∀ q, X.env.kindOf y.1 = some q → X.env.scope.names.lookup y.1 = some q := fun q e => e
  rcases L.free y hy e with z | z
  · rcases c.kd _ _ z with q | q
    · exact .inl (hk _ q)
    · exact .inl (hk _ q.2)
  · rcases c.kd _ _ z with q | q
    · exact .inr (hk _ q)
    · exact .inl (hk _ q.2)
theorem noPar_eq {p : Arguments} (h : noPar p = true) : p = ⟨[], [], none, [], [], none, []⟩ := by
  unfold noPar at h
  split at h
  · rfl
  · cases h
theorem noPar_df {p : Arguments} (h : noPar p = true) {env : Env} : defaultsOf p env = ([], []) := by
  rw [noPar_eq h] <;> rfl
theorem noPar_bind {p : Arguments} (h : noPar p = true) {body : Expr} {scope : Scope} (q : Str) (cl : List (Str × Addr)) (pm cv ctv : Value) : bindArgs (PySem.W.kla_fn "<lambda>" q p body scope cl pm cv ctv) ⟨[], []⟩ = pure [] := by
  rw [noPar_eq h] <;> rfl
theorem pe_thkX (c : Ctx t tb T C k W s X) {y : Str} {p1 p2 : Pos} (ht : s.tk = true) (hy : s.N[0]? = some y) : PE X (.Call (.Name y p1) [] [] p2) (rdE t W true fun ev S => match ev[0]? with | some Sl.th => C.th S | _ => Out.bad) :=
  c.thk ht W X.pn X.xe c.tk y p1 p2 hy
/-- f(lambda: b) -/
theorem pe_callTX (c : Ctx t tb T C k W s X) (G : Glob t tb T C k) {f : Nat} {nm : Str} {b : E} {params : Arguments} {body : Expr} {scope : Scope} {p lpos pos : Pos} (hf : tb.ft f = some nm) (hk : kindB s nm .globalImplicit = true) (hd : (nm == ("__debug__" : Str)) = false) (hl : s.lm = true)
    (L : LamX.LamS X.env.scope scope) (hdf : defaultsOf params X.env = ([], [])) (hb0 : ∀ (q : Str) (cl : List (Str × Addr)) (pm cv ctv : Value), bindArgs (PySem.W.kla_fn "<lambda>" q params body scope cl pm cv ctv) ⟨[], []⟩ = pure [])
    (hbody : ∀ (W2 : WX) (X2 : Cx), Ctx t tb T C k W2 ⟨s.N, scope, false, false⟩ X2 → PE X2 body (rdE t W2 true (evE C b))) :
    PE X (.Call (.Name nm p) [.Lambda params body scope lpos] [] pos) (rdE t W true fun ev S => C.fnT f (fun S1 => evE C b (capE ev) S1) S) := by
  obtain ⟨cc, P, hcd, hPm, TB, hr3⟩ := c.lm hl
  obtain ⟨ga, fd, N, a, qual, st, h1, F, hS, hB, hN, hv, hd1, hd2, run⟩ := (G.ft f nm hf).ex
  refine ⟨fun pins sh σ H Q I h => ?_⟩
  obtain ⟨ev, S, g, sl, w, h⟩ := h
  obtain ⟨gP, iP, ps, eP, tP, aP⟩ := w.tab _ hPm
  have eP' : H P = some (.tbl ps) := eP
  refine wpAny_Call_Name_kw (ld_glob I (c.gl hk) (by rw [c.hg]; exact h1) ?_ hd)
  refine PySem.W.callWith_K (h₀ := X.base) I.ok.mod.kin (by rw [c.hK]; exact F.kp) ?_ (by rfl) (by rfl)
  show wpAny _ _ (spliced ((false, eval (.Lambda params body scope lpos) X.env) :: backTo pos (starEach [] X.env))) _ _ sh
  refine Calls.spliced_cons (lam_makeX I TB hcd eP' tP (fun p' cv e => ?_) hdf (L.has I.ok) fun fl d pm ctv H1 s1 I1 hL hfo hfn hfr hco => ?_)
  · obtain ⟨d, e1, e2⟩ := aP p' cv e
    exact ⟨d, e1, w.sub _ _ e2⟩
  obtain ⟨g1, f1, w1, hG1⟩ := lam_ghost w hPm G.tbu eP' hL
  refine Calls.spliced_nil ⟨I1.kIn, ?_⟩
  have hr0 := hr3.hd
  obtain ⟨oc, od, kV, doc, pm0, an, cdv, ct, osl, rfl, lk, hcq⟩ := F.ex
  let i : ThI := ⟨fl, d, X.env.qual ++ "<lambda>", capE ev, σ⟩
  have cap : CapOk t g1 (capE ev) σ := (sl.frm f1).cap
  refine wpAny_call (codeAny_mono (R := CR (L2.CX X.prog X.w) X.stack X.prog X.w H1 s1 Q (fun cls dd H2 => W cls dd σ H2)) ?_ fun r s2 hq => ?_)
  · refine LamX.run_ofS (k := k + 2) (N := N) (ps := [a]) (us := [.ref fl]) (vs := [.ref fl]) (by rw [c.hK]; exact lk) (by rw [c.hK]; exact hcq) hS hr3 I1.env0 (hB s1 [.ref fl] (by rw [← c.hK]; exact I1.kIn) rfl) (.cons rfl .nil) rfl fun hr' => ?_
    have hcx : cxT t T N qual (defScope st) ga cdv X.A X.stack s1 H1 (fun cls dd H2 => W cls dd σ H2) = cxOf (L2.CX X.prog X.w) X.prog X.w X.K X.mg X.base N qual (defScope st) ga cdv X.A X.stack s1 H1 (fun cls dd H2 => W cls dd σ H2) := by
      unfold cxT; rw [c.hP, c.hw, c.hK, c.hg, c.hb]
    rw [← hcx]
    refine run X.A X.stack s1 H1 Q (fun cls dd H2 => W cls dd σ H2) i (fun S1 => evE C b (capE ev) S1) S g1 (hr'.mono (by omega)) ?_ cap hG1 w1 ?_
    · intro W2 pn xe p1 p2 tk
      show PE ((cxT t T N qual (defScope st) ga cdv X.A X.stack s1 H1 (fun cls dd H2 => W cls dd σ H2)).tr pn xe) _ _
      have tk' : Takes ((cxT t T N qual (defScope st) ga cdv X.A X.stack s1 H1 (fun cls dd H2 => W cls dd σ H2)).tr pn xe) W2 := tk
      rw [hcx] at tk' ⊢
      refine PE.imp (pe_actX (tb := fun E => rdE t (fun cls dd _ H2 => E cls dd H2) true (evE C b)) I1 L hfo hfn hfr (hb0 _ _ _ _ _) tk' hr' (fun A outer s2 H2 E hr2 => hbody _ _ (c.lam L A outer s2 H2 E fl d hr2)) hN hv hd1 hd2) ?_
      rintro σZ HZ QZ ⟨q1, q2, S2, g2, cap2, w2, h2⟩
      refine ⟨q1, q2, capE ev, S2, g2, cap2.slots HZ, w2, ?_⟩
      dsimp only at h2 ⊢
      cases z : evE C b (capE ev) S2 with
      | ok dd S3 => rw [z] at h2; exact fun v H' g' f' w' r => h2 v H' g' f' w' r.str
      | exc e S3 => rw [z] at h2; exact h2
      | bad => rw [z] at h2; exact h2
    · have h' := Aft.shift f1 h
      dsimp only at h' ⊢
      cases z : C.fnT f (fun S1 => evE C b (capE ev) S1) S with
      | ok dd S3 => rw [z] at h'; exact fun v H' g' f' w' r => h' v H' g' f' w' (.of r)
      | exc e S3 => rw [z] at h'; exact h'
      | bad => rw [z] at h'; exact h'
  · rcases r with e | fl2
    · exact passAt c.tk σ pins H1 s1 e s2 I1 hq
    · cases fl2 with
      | ret u => exact I1.after hq
      | next => exact hq.elim
      | brk => exact hq.elim
      | cont => exact hq.elim
end
/-! ### another lambda at hand: nothing else changes -/
abbrev Tp.at (t : Tp) (i : ThI) : Tp := { t with th := some i }
section
variable {t : Tp} {i : ThI} {g : Gh} {H : Hp} {S : Store}
mutual
theorem rep_at' : ∀ (d : D) (v : V), Rep (t.at i) g d v = Rep t g d v
  | .non, _ => by simp only [Rep]
  | .bl _, _ => by simp only [Rep]
  | .int _, _ => by simp only [Rep]
  | .str _, _ => by simp only [Rep]
  | .tup l, v => by simp only [Rep, reps_at' l]
  | .lst l, v => by simp only [Rep, reps_at' l]
  | .ins c ns vs, v => by simp only [Rep, reps_at' vs]
  | .cel n, v => by simp only [Rep]
  | .tpf l, v => by simp only [Rep, reps_at' l]
  | .dic, v => by simp only [Rep]
theorem reps_at' : ∀ (l : List D) (xs : List V), Reps (t.at i) g l xs = Reps t g l xs
  | [], _ => by simp only [Reps]
  | d :: ds, xs => by simp only [Reps, rep_at' d, reps_at' ds]
end
theorem rep_at {d : D} {v : V} : Rep (t.at i) g d v = Rep t g d v := rep_at' d v
theorem reps_at {l : List D} {xs : List V} : Reps (t.at i) g l xs = Reps t g l xs := reps_at' l xs
theorem cap_at {ev : Ev} {σ : L2.St} : CapOk (t.at i) g ev σ = CapOk t g ev σ := by simp only [CapOk, rep_at]
theorem cell_at {a : Addr} {c : Cell} : CellOk (t.at i) g H a c = CellOk t g H a c := by cases c <;> simp only [CellOk, reps_at]
theorem wld_at : Wld (t.at i) S g H ↔ Wld t S g H :=
  ⟨fun w => ⟨w.sub, fun n c e => let ⟨a, h1, h2, h3⟩ := w.cel n c e; ⟨a, h1, h2, by rw [cell_at] at h3; exact h3⟩, w.len, w.inj, w.tab⟩,
   fun w => ⟨w.sub, fun n c e => let ⟨a, h1, h2, h3⟩ := w.cel n c e; ⟨a, h1, h2, by rw [cell_at]; exact h3⟩, w.len, w.inj, w.tab⟩⟩
theorem exR_at {x : Exn} {cls : Value} {d : Option Addr} : ExR (t.at i) g H x cls d = ExR t g H x cls d := by simp only [ExR, reps_at]
theorem aft_at {α β : Type} {W : XK} {R : Hp → Gh → α → β → Prop} {o : Out α} {Q : β → Hp → Prop} : Aft (t.at i) W R g H o Q = Aft t W R g H o Q := by
  cases o <;> simp only [Aft, propext wld_at, exR_at]
theorem spF_at {C : Cl} {f np : Nat} {th : Store → Out D} : spF (t.at i) { C with th := th } f np = spF t C f np := by
  funext vs H Q E
  simp only [spF, propext wld_at, reps_at, aft_at, rep_at]
end
end Mp

set_option Elab.async false
set_option linter.all false
set_option maxRecDepth 100000
set_option autoImplicit false
set_option maxHeartbeats 1000000
/-! dicts with content, keys whole numbers and texts -/
namespace Mp
open PySem PySem.Spec L2
/-- the same keys, values that stand for the data -/
inductive DRel (t : Tp) (g : Gh) : List (Key × D) → List (Key × V) → Prop
  | nil : DRel t g [] []
  | cons {k : Key} {d : D} {v : V} {l : List (Key × D)} {m : List (Key × V)} (h : Rep t g d v) (r : DRel t g l m) : DRel t g ((k, d) :: l) ((k, v) :: m)
section
variable {t : Tp} {g g' : Gh} {l : List (Key × D)} {m : List (Key × V)}
theorem DRel.of : ∀ {l : List (Key × D)} {m : List (Key × V)}, m.map (·.1) = l.map (·.1) → Reps t g (l.map (·.2)) (m.map (·.2)) → DRel t g l m
  | [], [], _, _ => .nil
  | [], _ :: _, h, _ => by simp at h
  | _ :: _, [], h, _ => by simp at h
  | (k, d) :: l, (k', v) :: m, h, r => by
    simp only [List.map_cons, List.cons.injEq] at h
    obtain ⟨h1, h2⟩ := h
    simp only [List.map_cons, Reps] at r
    obtain ⟨x, xs, e, rx, rs⟩ := r
    simp only [List.cons.injEq] at e
    obtain ⟨rfl, rfl⟩ := e
    obtain rfl := h1
    exact .cons rx (.of h2 rs)
theorem DRel.to (h : DRel t g l m) : m.map (·.1) = l.map (·.1) ∧ Reps t g (l.map (·.2)) (m.map (·.2)) := by
  induction h with
  | nil => exact ⟨rfl, .nil⟩
  | cons h _ ih => exact ⟨by simp [ih.1], .cons h ih.2⟩
theorem DRel.mono (h : DRel t g l m) (f : ∀ d v, Rep t g d v → Rep t g' d v) : DRel t g' l m := by
  induction h with
  | nil => exact .nil
  | cons h _ ih => exact .cons (f _ _ h) ih
theorem DRel.len (h : DRel t g l m) : m.length = l.length := by
  induction h with
  | nil => rfl
  | cons _ _ ih => simp [ih]
theorem DRel.get (h : DRel t g l m) (k : Key) : (∀ d, dkG l k = some d → ∃ v, valV m k = some v ∧ Rep t g d v) ∧ (dkG l k = none → valV m k = none) := by
  induction h with
  | nil => exact ⟨fun d e => by simp [dkG] at e, fun _ => rfl⟩
  | @cons k' d v l m h _ ih =>
    by_cases e : k' = k
    · subst e
      refine ⟨fun d' e2 => ?_, fun e2 => ?_⟩
      · have : d' = d := by simpa [dkG] using e2.symm
        subst this
        exact ⟨v, by simp [valV], h⟩
      · simp [dkG] at e2
    · have e1 : dkG ((k', d) :: l) k = dkG l k := by simp [dkG, e]
      have e2 : valV ((k', v) :: m) k = valV m k := by simp [valV, e]
      rw [e1, e2]
      exact ih
theorem DRel.any (h : DRel t g l m) (k : Key) : (m.any fun p => decide (p.1 = k)) = l.any fun p => decide (p.1 = k) := by
  induction h with
  | nil => rfl
  | cons _ _ ih => rw [List.any_cons, List.any_cons, ih]
theorem DRel.append {l' : List (Key × D)} {m' : List (Key × V)} (h : DRel t g l m) (h' : DRel t g l' m') : DRel t g (l ++ l') (m ++ m') := by
  induction h with
  | nil => exact h'
  | cons h _ ih => exact .cons h ih
theorem DRel.repl (h : DRel t g l m) {k : Key} {d : D} {v : V} (r : Rep t g d v) : DRel t g (l.map (fun p => if p.1 = k then (p.1, d) else p)) (m.map fun p => if p.1 = k then (p.1, v) else p) := by
  induction h with
  | nil => exact .nil
  | @cons k' d' v' l m h _ ih =>
    simp only [List.map_cons]
    by_cases e : k' = k
    · simp only [e, if_true]; exact .cons r ih
    · simp only [e, if_false]; exact .cons h ih
theorem DRel.put (h : DRel t g l m) {k : Key} {d : D} {v : V} (r : Rep t g d v) : DRel t g (dkP l k d) (putK m k v) := by
  unfold dkP putK
  rw [h.any k]
  split
  · exact h.repl r
  · exact h.append (.cons r .nil)
theorem DRel.merge : ∀ {l' : List (Key × D)} {m' : List (Key × V)}, DRel t g l' m' → ∀ {l : List (Key × D)} {m : List (Key × V)}, DRel t g l m → DRel t g (dkM l l') (mergeK m m')
  | _, _, .nil, _, _, h => h
  | _, _, .cons r h', _, _, h => DRel.merge h' (h.put r)
theorem DRel.zip : ∀ {ks : List Str} {ds : List D} {vs : List V}, Reps t g ds vs → DRel t g ((ks.zip ds).map fun p => ((Sum.inr p.1 : Key), p.2)) ((ks.zip vs).map fun p => (Sum.inr p.1, p.2))
  | [], _, _, _ => .nil
  | _ :: _, [], _, r => by simp only [Reps] at r; subst r; exact .nil
  | k :: ks, d :: ds, vs, r => by
    simp only [Reps] at r
    obtain ⟨x, vs', rfl, rx, rs⟩ := r
    exact .cons rx (DRel.zip rs)
theorem key_rel {H : Hp} {y : D} {v : V} {k : Key} (r : RepW t H g y v) (e : keyD y = some k) : v = kV k := by
  cases y <;> simp only [keyD] at e <;> first | (cases e; done) | skip
  · cases e; exact r.int
  · cases e; exact r.str
/-- the dict that a cell holds -/
theorem dct_at {S : Store} {H : Hp} (w : Wld t S g H) {x : D} {v : V} {l : List (Key × D)} (r : RepW t H g x v) (e : dctS S x = some l) : ∃ n a m, x = .cel n ∧ v = .ref a ∧ g.io n = some a ∧ S[n]? = some (.dct l) ∧ H a = some (.dK m) ∧ DRel t g l m := by
  cases x <;> simp only [dctS] at e <;> first | (cases e; done) | skip
  rename_i n
  cases z : S[n]? with
  | none => rw [z] at e; simp [dctC] at e
  | some c =>
    rw [z] at e
    cases c <;> simp only [dctC] at e <;> first | (cases e; done) | skip
    cases e
    obtain ⟨a, rfl, hi⟩ := r.cel
    obtain ⟨a', e1, _, m, h1, h2, h3⟩ := w.cel n _ z
    rw [hi] at e1; cases e1
    exact ⟨n, a, m, rfl, rfl, hi, z, h1, .of h2 h3⟩
theorem dctG_at {S : Store} {H : Hp} (w : Wld t S g H) {x y : D} {v u : V} {o : Option D} (rx : RepW t H g x v) (ry : RepW t H g y u) (e : dctG S x y = some o) : ∃ a ov, v = .ref a ∧ DGet H a u ov ∧ IsD H a ∧ (∀ d, o = some d → ∃ z, ov = some z ∧ Rep t g d z) ∧ (o = none → ov = none) := by
  unfold dctG at e
  split at e
  · rename_i l k e1 e2
    cases e
    obtain ⟨n, a, m, rfl, rfl, hi, hs, hm, r⟩ := dct_at w rx e1
    rw [key_rel ry e2]
    exact ⟨a, valV m k, rfl, DGet.k hm, .inl ⟨m, .inl hm⟩, (r.get k).1, (r.get k).2⟩
  · cases e
end
section
variable {t : Tp} {W : WX} {X : Cx} {o i f : Expr} {fo fi ff : Den D} {bo bi : Bool} {pos : Pos}
/-- {k: v, ..}, shared -/
theorem pe_dcX {keys : List (Option Expr)} {values : List Expr} {ks : List Str} {fs : List (Den D)} {dp : Pos} (hp : PPs X dp keys values (List.zipWith (fun k f => (tC (.str k), rdE t W true f)) ks fs))
    (hall : keys.all (·.isSome) = true) (hl : keys.length = values.length) (h15 : keys.length ≤ 15) (hk : ks.length = keys.length) (hf : ks.length = fs.length) :
    PE X (.Dict keys values dp) (rdE t W true fun ev S => (evF fs ev S).bind fun l S1 => .ok (.cel S1.length) (S1 ++ [.dct (dkM [] ((ks.zip l).map fun p => (Sum.inr p.1, p.2)))])) := by
  by_cases h0 : keys = []
  · subst h0
    have hv : values = [] := List.length_eq_zero_iff.mp hl.symm
    subst hv
    refine PE.imp pe_dnewK fun σ H Q h => ?_
    obtain ⟨ev, S, g, sl, w, h⟩ := h
    intro p hpn
    have ek : ks = [] := List.length_eq_zero_iff.mp hk
    subst ek
    have ef : fs = [] := List.length_eq_zero_iff.mp hf.symm
    subst ef
    have w1 := w.fresh (o := .dK []) hpn
    have f1 : Frm g H g (upd H p (.dK [])) := Frm.fresh w hpn
    refine h (.ref p) _ (g.cell S.length p) (f1.addCell w1 hpn) (w1.addCell (w.gfree hpn) (w.ifree hpn) ⟨[], upd_same, rfl, .nil⟩) (.of ?_)
    simp only [Rep]
    exact ⟨p, rfl, if_pos rfl⟩
  · refine PE.imp (pe_disp hp hall hl h0 h15) fun σ H Q h => ?_
    obtain ⟨ev, S, g, sl, w, h⟩ := h
    intro p hpn
    have f0 : Frm g H g (upd H p (.dK [])) := Frm.fresh w hpn
    have g0 := w.gfree hpn
    have i0 := w.ifree hpn
    refine tPairs_rd ks fs hf ⟨ev, S, g, sl.frm f0, w.fresh hpn, Aft.bindAt (R1 := fun _ g ds vs => Reps t g ds vs) f0 h⟩ fun vs H2 hvl ⟨l, S2, g2, f2, w2, r2, h2⟩ => ?_
    have hp2 : H2 p = some (.dK []) := f2.keep p _ upd_same i0 (fun _ z => nomatch z)
    refine ⟨hp2, (ks.zip vs).map fun q => (Sum.inr q.1, q.2), by rw [List.map_map]; rfl, by simp; omega, ?_⟩
    have r3 : DRel t g2 (dkM [] ((ks.zip l).map fun q => (Sum.inr q.1, q.2))) (mergeK [] ((ks.zip vs).map fun q => ((Sum.inr q.1 : Key), q.2))) := DRel.merge (.zip r2) .nil
    generalize mergeK [] ((ks.zip vs).map fun q => ((Sum.inr q.1 : Key), q.2)) = kvs at r3 ⊢
    have g2n : g2.G p = none := f2.gnone upd_same g0
    have i2n : ∀ n, g2.io n ≠ some p := f2.inone upd_same i0
    have f3 : Frm g H g2 (upd H2 p (.dK kvs)) := Frm.own (f0.trans f2) hpn
    have w3 := w2.own (o := .dK kvs) g2n i2n (fun _ z => by rw [hp2] at z; cases z)
    refine h2 (.ref p) _ (g2.cell S2.length p) (f3.addCell w3 hpn) (w3.addCell g2n i2n ⟨kvs, upd_same, r3.to.1, r3.to.2⟩) (.of ?_)
    simp only [Rep]
    exact ⟨p, rfl, if_pos rfl⟩
/-- d[k] -/
theorem pe_dgetX (hu : X.A.units + 65 < cLine) (ho : PE X o (rdE t W bo fo)) (hi : PE X i (rdE t W bi fi)) (hs : NoSl i) :
    PE X (.Subscript o i pos) (rdE t W true fun ev S => (fo ev S).bind fun x S1 => (fi ev S1).bind fun y S2 => .of ((dctG S2 x y).bind id) S2) := by
  refine PE.imp (pe_dget (by omega) ho hi hs) fun σ H Q h => ?_
  obtain ⟨ev, S, g, sl, w, h⟩ := rd_bind (R1 := RepB t bo) h
  refine ⟨ev, S, g, sl, w, h.mono fun v H1 ⟨ev, S1, g1, x, sl1, w1, r1, h1⟩ => ?_⟩
  refine ⟨ev, S1, g1, sl1, w1, (Aft.bind (R1 := RepB t bi) h1).mono fun u H2 ⟨y, S2, g2, f2, w2, r2, h2⟩ => ?_⟩
  obtain ⟨d, e, q⟩ := Aft.of h2
  cases z : dctG S2 x y with
  | none => rw [z] at e; cases e
  | some oo =>
    rw [z] at e
    have e' : oo = some d := e
    obtain ⟨a, ov, ea, hg, _, h3, _⟩ := dctG_at w2 (r1.frm f2).weak (RepB.weak r2) z
    obtain ⟨zv, ez, rz⟩ := h3 d e'
    subst ez
    exact ⟨a, zv, ea, hg, q _ _ _ (Frm.refl _ _) w2 (.of rz)⟩
/-- d.get(k, x) -/
theorem pe_dget2X {apos cpos : Pos} (hu : X.A.units + 65 < cLine) (ho : PE X o (rdE t W bo fo)) (hi : PE X i (rdE t W bi fi)) (hf : PE X f (rdE t W true ff)) (m : M2 X o "get" apos i f cpos) :
    PE X (.Call (.Attribute o "get" apos) [i, f] [] cpos) (rdE t W true fun ev S => (fo ev S).bind fun x S1 => if (dctS S1 x).isSome then (fi ev S1).bind fun y S2 => (ff ev S2).bind fun z S3 => .of ((dctG S3 x y).map fun o => o.getD z) S3 else .bad) := by
  refine PE.imp (pe_dget2 (by omega) ho hi hf m) fun σ H Q h => ?_
  obtain ⟨ev, S, g, sl, w, h⟩ := rd_bind (R1 := RepB t bo) h
  refine ⟨ev, S, g, sl, w, h.mono fun v H1 ⟨ev, S1, g1, x, sl1, w1, r1, h1⟩ => ?_⟩
  split at h1
  case isFalse => exact h1.elim
  rename_i hsome
  obtain ⟨l0, hl0⟩ := Option.isSome_iff_exists.mp hsome
  obtain ⟨n, a, m0, _, rfl, _, _, hm, _⟩ := dct_at w1 (RepB.weak r1) hl0
  refine ⟨a, rfl, .inl ⟨m0, .inl hm⟩, ev, S1, g1, sl1, w1, (Aft.bind (R1 := RepB t bi) h1).mono fun u H2 ⟨y, S2, g2, f2, w2, r2, h2⟩ => ?_⟩
  refine ⟨ev, S2, g2, sl1.frm f2, w2, (Aft.bind (R1 := RepB t true) h2).mono fun z H3 ⟨dz, S3, g3, f3, w3, r3, h3⟩ => ?_⟩
  obtain ⟨d, e, q⟩ := Aft.of h3
  cases zz : dctG S3 x y with
  | none => rw [zz] at e; cases e
  | some oo =>
    rw [zz] at e
    cases e
    obtain ⟨a', ov, ea, hg, _, h4, h5⟩ := dctG_at w3 ((r1.frm f2).frm f3).weak (RepB.weak (r2.frm f3)) zz
    cases ea
    refine ⟨ov, hg, q _ _ _ (Frm.refl _ _) w3 (.of ?_)⟩
    cases oo with
    | none => rw [h5 rfl]; exact r3.str
    | some d0 =>
      obtain ⟨zv, ez, rz⟩ := h4 d0 rfl
      rw [ez]; exact rz
/-- k in d -/
def dInF (neg : Bool) (fi fo : Den D) : Den D := fun ev S => (fi ev S).bind fun y S1 => (fo ev S1).bind fun x S2 => .of ((dctG S2 x y).map fun o => .bl (o.isSome != neg)) S2
theorem dInF_bl {neg : Bool} : Bl (dInF neg fi fo) := fun ev S d S' h => by
  unfold dInF at h
  cases z : fi ev S with
  | ok y S1 =>
    rw [z] at h
    simp only [Out.bind_ok] at h
    cases z2 : fo ev S1 with
    | ok x S2 =>
      rw [z2] at h
      simp only [Out.bind_ok] at h
      cases z3 : dctG S2 x y with
      | none => rw [z3] at h; cases h
      | some o => rw [z3] at h; cases h; exact ⟨_, rfl⟩
    | exc _ _ => rw [z2] at h; cases h
    | bad => rw [z2] at h; cases h
  | exc _ _ => rw [z] at h; cases h
  | bad => rw [z] at h; cases h
theorem dIn_rd {neg : Bool} {σ : St} {H : Hp} {Q : VK} (h : rdE t W true (dInF neg fi fo) σ H Q) : (rdE t W bi fi) σ H fun y H1 => (rdE t W bo fo) σ H1 fun x H2 => ∃ a o, x = .ref a ∧ DGet H2 a y o ∧ Q (.bl (o.isSome != neg)) H2 := by
  obtain ⟨ev, S, g, sl, w, h⟩ := rd_bind (R1 := RepB t bi) h
  refine ⟨ev, S, g, sl, w, h.mono fun u H1 ⟨ev, S1, g1, y, sl1, w1, r1, h1⟩ => ?_⟩
  refine ⟨ev, S1, g1, sl1, w1, (Aft.bind (R1 := RepB t bo) h1).mono fun v H2 ⟨x, S2, g2, f2, w2, r2, h2⟩ => ?_⟩
  obtain ⟨d, e, q⟩ := Aft.of h2
  cases z : dctG S2 x y with
  | none => rw [z] at e; cases e
  | some oo =>
    rw [z] at e; cases e
    obtain ⟨a, ov, ea, hg, _, h4, h5⟩ := dctG_at w2 (RepB.weak r2) (r1.frm f2).weak z
    refine ⟨a, ov, ea, hg, q _ _ _ (Frm.refl _ _) w2 (.of ?_)⟩
    simp only [Rep]
    cases oo with
    | none => rw [h5 rfl]; rfl
    | some d0 => obtain ⟨zv, ez, _⟩ := h4 d0 rfl; rw [ez]; rfl
theorem pc_dIn {neg : Bool} (hu : X.A.units + 65 < cLine) (hi : PE X i (rdE t W bi fi)) (ho : PE X o (rdE t W bo fo)) : PC X (if neg then .NotIn else .In) i o (rdE t W true (dInF neg fi fo)) := by
  cases neg with
  | false =>
    refine ⟨fun pins s σ H Q I h => (pc_din (by omega) hi ho).run pins s σ H Q I ?_⟩
    have := dIn_rd (bi := bi) (bo := bo) h
    simp only [Bool.bne_false] at this
    exact this
  | true =>
    refine ⟨fun pins s σ H Q I h => (pc_dnotin (by omega) hi ho).run pins s σ H Q I ?_⟩
    have := dIn_rd (bi := bi) (bo := bo) h
    simp only [Bool.bne_true] at this
    exact this
theorem pe_dInX {neg : Bool} (hu : X.A.units + 65 < cLine) (hm : behindInMarks (if neg then .NotIn else .In) o = false) (hi : PE X i (rdE t W bi fi)) (ho : PE X o (rdE t W bo fo)) : PE X (.Compare i [if neg then .NotIn else .In] [o] pos) (rdE t W true (dInF neg fi fo)) := pe_cmp (pc_dIn hu hi ho) hm
theorem pt_dInX {neg : Bool} (hu : X.A.units + 65 < cLine) (hm : behindInMarks (if neg then .NotIn else .In) o = false) (hi : PE X i (rdE t W bi fi)) (ho : PE X o (rdE t W bo fo)) : PT X (.Compare i [if neg then .NotIn else .In] [o] pos) (rdT t W (truF (dInF neg fi fo))) :=
  PT.imp (pt_cmp (pc_dIn hu hi ho) hm) fun σ H Q h => bl_rd dInF_bl h
end
end Mp

set_option Elab.async false
set_option linter.all false
set_option maxRecDepth 100000
set_option autoImplicit false
set_option maxHeartbeats 2000000
namespace Mp
open PySem PySem.W PyProof.Rows
section
variable {prog : Program} {w : World} {A : Around} {E : Value → Shared → Prop} {s : Shared} {K : Frag} {x C L f : Addr} {h₀ : Heap} {m : Str → Option Value} {ox : Obj} {od : Option Obj} {b tb : Value}
theorem ne_slot : Slot "object" "__ne__" "object.__ne__" :=
  Slot.of (T := "object") (name := "__ne__") (owner := "object") (n := "__ne__") (by rw [typeLookup_type, builtinLookup_eq_fast]; kernel_rfl) (by decide +kernel) (by decide +kernel) (by decide +kernel)
    (.inl (by decide +kernel)) (by rw [isSubtype_type]; kernel_rfl)
def NeBack (Q : Value → Shared → Prop) (v : Value) (s' : Shared) : Prop := match v with
  | .bool k => Q (.bool (!k)) s'
  | _ => False
/-- a != b by a's own == -/
theorem ne_K {Q : Value → Shared → Prop} (hu : A.units + 1 < cLine) (F : Fr h₀ L s.heap m) (X₀ : K.In h₀) (I : InstAt s.heap x ox C od) (hb : Looks (model prog w) s.heap (typeOf b) tb) (hn : notFirst K C tb = true) (hm : mroIn K C (.type "object") = some true)
    (hs : findIn K (.ref C) "__ne__" = some (some (.builtin "object.__ne__"))) (he : findIn K (.ref C) "__eq__" = some (some (.ref f))) (hf : isFn K (.ref f) = true)
    (h : wpAny (model prog w) A.in1 (call (.ref f) [.ref x, b]) (NeBack Q) E s) : wpAny (model prog w) A (richCompare .NotEq (.ref x) b) Q E s := by
  have X := X₀.keeps F.keep
  have body : wpAny (model prog w) A.in1 (Builtin.«object.__ne__» ⟨[.ref x, b], []⟩) (fun fin s' => match fin with
      | .done (.ret v) => ∃ k, v = .bool k ∧ Q v s'
      | _ => False) E s := by
    unfold Builtin.«object.__ne__»
    refine wpAny_bind (m := slotArgs "__ne__" 1 _) (wpAny_pure ?_)
    refine wpAny_bind (wpAny_cRoomFor (by exact hu) ?_)
    refine wpAny_bind (m := callSpecialIfBound? (.ref x) (Str.ofString "__eq__") _) (ifBound_K X I he hf (wpAny_mono h (fun v s' hv => ?_) fun _ _ e => e))
    cases v <;> first | exact hv.elim | skip
    rename_i k
    refine wpAny_bind (wpAny_truthy_bool ?_)
    exact wpAny_pure ⟨!k, rfl, hv⟩
  have inst : Looks (model prog w) s.heap (isInstance (.ref x) (.type "object")) true := I.type.andThen (looks_mroIn X hm)
  have cal : wpAny (model prog w) A (call (.builtin "object.__ne__") [.ref x, b]) (fun v s' => ∃ k, v = .bool k ∧ Q v s') E s := by
    refine wpAny_call (codeAny_call_builtin ne_slot.plain PySem.F.cmpEntry_ne (@check_slot (model prog w) _ _ s "object.__ne__" "object" "__ne__" (.ref x) [b] [] _ PySem.F.cmpKind_ne PySem.F.cmpSplit_ne inst (PySem.F.cmpArgs_ne _ _) ?_))
    refine wpAny_mono body (fun fin s' hq => ?_) fun _ _ e => e
    cases fin with
    | again c => exact hq.elim
    | done fl => cases fl <;> first | exact hq | exact hq.elim
  have ifB : wpAny (model prog w) A (callSpecialIfBound? (.ref x) "__ne__" [b]) (fun r s' => ∃ k, r = some (.bool k) ∧ Q (.bool k) s') E s := by
    simp only [callSpecialIfBound?, bindSpecialIfBound?]
    refine wpAny_holding (wpAny_bind (wpAny_bind (wpAny_bind (I.type.here ((looks_findIn X hs).here ?_)))))
    refine wpAny_bind (wpAny_askSetting (wpAny_ite ?_))
    have fin : wpAny (model prog w) A (call (.builtin "object.__ne__") ([.ref x] ++ [b]) >>= fun v => pure (some v)) (fun r s' => ∃ k, r = some (.bool k) ∧ Q (.bool k) s') E s := by
      refine wpAny_bind (wpAny_mono cal (fun v s' hv => ?_) fun _ _ h' => h')
      obtain ⟨k, rfl, hq⟩ := hv
      exact wpAny_pure ⟨k, rfl, hq⟩
    split
    · exact wpAny_bind ((Looks.of_pure (ne_slot.bind (.ref x))).here (wpAny_pure (by exact fin)))
    · exact wpAny_tryCatch (wpAny_bind ((Looks.of_pure (ne_slot.bind (.ref x))).here (wpAny_pure (by exact fin))))
  have one : wpAny (model prog w) A (tryCompare (.ref x) "__ne__" b) (fun r s' => ∃ v, r = some v ∧ Q v s') E s := by
    unfold tryCompare
    refine wpAny_bind (wpAny_mono ifB (fun r s' hv => ?_) fun _ _ e => e)
    obtain ⟨k, rfl, hq⟩ := hv
    exact wpAny_pure ⟨_, rfl, hq⟩
  unfold richCompare
  simp only [oneThing_ref]
  refine wpAny_holding (wpAny_bind (wpAny_cRoomFor (Nat.lt_of_succ_lt hu) ?_))
  refine wpAny_bind (I.type.here (wpAny_bind (hb.here ?_)))
  split
  · rename_i q
    have e : subIn K tb (.ref C) = some false := by
      rcases Bool.or_eq_true_iff.mp hn with e | e
      · rw [beq_iff_eq.mp e] at q; simp at q
      · exact beq_iff_eq.mp e
    refine wpAny_bind ((looks_subIn X e).here ?_)
    simp only [Bool.false_eq_true, if_false]
    refine wpAny_bind (wpAny_mono one (fun r s' z => ?_) fun _ _ e => e)
    obtain ⟨v, rfl, hq⟩ := z
    exact wpAny_pure hq
  · refine wpAny_bind (wpAny_pure ?_)
    simp only [Bool.false_eq_true, if_false]
    refine wpAny_bind (wpAny_mono one (fun r s' z => ?_) fun _ _ e => e)
    obtain ⟨v, rfl, hq⟩ := z
    exact wpAny_pure hq
end
end Mp
namespace Mp
open PySem PySem.Spec L2
section
variable {t : Tp} {tb : Tab} {T : Top} {C : Cl} {k : Nat} {W : WX} {s : Sc} {X : Cx} {pos : Pos} {a b : Expr} {fa fb : Den D} {ba bb : Bool}
theorem neOX_run (c : Ctx t tb T C k W s X) (G : Glob t tb T C k) {cc f : Nat} {nm : Str} (hm : tb.mt cc f = some (("__eq__" : Str), 2)) (hn : tb.cls cc = some nm) {pins : List (Addr × Obj)} {s2 : Shared} {σ : St} {H2 : Hp} {x y : V} {v u : Value} {Q : VK} (I2 : L2.Inv X pins σ H2 s2) (rx : RelV x v) (ry : RelV y u) (q : rEqO t C W cc f true σ x y H2 Q) :
    wpAny (model X.prog X.w) X.A (compareOp .NotEq v u) (EP X pins σ Q) X.xe s2 := by
  obtain ⟨A, q', fd, ps, h1, h2, h3, h4, h5, h6, h7, _⟩ := mt_at c G hm
  obtain ⟨A', hA', hX⟩ := G.cls cc nm hn
  rw [h1] at hA'; cases hA'
  have hne : PySem.W.findIn X.K (.ref A) "__ne__" = some (some (.builtin "object.__ne__")) := by
    rw [c.hK]
    rcases hX.ne with z | z
    · exact z
    · have := h3.at_
      rw [c.hK, z] at this
      cases this
  have hmo : PySem.W.mroIn X.K A (.type "object") = some true := by rw [c.hK]; exact hX.mo
  obtain ⟨S2, g2, dx', dy', w2, r1, r2, hh⟩ := q
  split at hh
  case isFalse => exact hh.elim
  rename_i hins
  simp only [Bool.and_eq_true] at hins
  obtain ⟨tv, lk, nf⟩ := oth_type c hX h1 I2 w2 r2 ry hins.2
  obtain ⟨nn, vv, hi⟩ := isInsB_ins hins.1
  obtain ⟨o, A', dx, xs, rfl, hc, ho, el, rs⟩ := ins_at w2 (.inl r1) hi
  rw [h1] at hc; cases hc
  obtain rfl : v = Value.ref o := rx
  obtain ⟨mA, J, _⟩ := ins_get I2.hok ho
  obtain ⟨od, J, _⟩ := J.look
  obtain ⟨mm, hF⟩ := I2.fr
  show wpAny _ _ (richCompare .NotEq (.ref o) u) _ _ _
  refine ne_K (by have := c.room.units; omega) hF I2.ok.mod.kin J lk nf hmo hne h3.at_ h3.fn ?_
  refine wpAny_mono (run_fnA (vs := [.ref o, y]) c.tk h6 c.sub1 h4 I2 (.cons rfl (.cons ry .nil)) ⟨S2, g2, [dx', dy'], w2, .cons r1 (.one r2), rfl, aft_of (Aft.bind (R1 := RepB t true) hh)⟩) (fun z s3 hz => ?_) fun _ _ e => e
  obtain ⟨v2, H3, I3, rv, d, S3, g3, f3, w3, r3, h3'⟩ := hz
  obtain ⟨d2, e2, q2⟩ := Aft.of h3'
  unfold blD at e2
  split at e2
  · rename_i kk
    cases e2
    obtain rfl := (RepB.weak r3).bl
    obtain rfl : z = .bool kk := rv
    exact ⟨.bl (!kk), H3, I3, rfl, q2 _ _ _ (Frm.refl _ _) w3 (.of (by simp only [Rep]; simp))⟩
  · cases e2

/-- the two comparisons -/
def cmpNeg (neg : Bool) : CmpOp := if neg then .NotEq else .Eq
theorem eqAny_run (c : Ctx t tb T C k W s X) (G : Glob t tb T C k) {cc f : Nat} {nm : Str} (neg : Bool) (hm : tb.mt cc f = some (("__eq__" : Str), 2)) (hn : tb.cls cc = some nm) {pins : List (Addr × Obj)} {s2 : Shared} {σ : St} {H2 : Hp} {x y : V} {v u : Value} {Q : VK} (I2 : L2.Inv X pins σ H2 s2) (rx : RelV x v) (ry : RelV y u) (q : rEqO t C W cc f neg σ x y H2 Q) :
    wpAny (model X.prog X.w) X.A (compareOp (cmpNeg neg) v u) (EP X pins σ Q) X.xe s2 := by
  cases neg with
  | false => exact eqOX_run c G hm hn I2 rx ry q
  | true => exact neOX_run c G hm hn I2 rx ry q
def eqOF (C : Cl) (cc f : Nat) (neg : Bool) (fa fb : Den D) : Den D := fun ev S => (fa ev S).bind fun x S1 => (fb ev S1).bind fun y S2 => if isInsB S2 cc x && othB S2 cc y then (C.fn f [x, y] [] [] S2).bind fun r S3 => .of (blD neg r) S3 else .bad
theorem pe_eqAnyX (c : Ctx t tb T C k W s X) (G : Glob t tb T C k) {cc f : Nat} {nm : Str} (neg : Bool) (hm : tb.mt cc f = some (("__eq__" : Str), 2)) (hn : tb.cls cc = some nm) (hk : behindInMarks (cmpNeg neg) b = false) (ha : PE X a (rdE t W true fa)) (hb : PE X b (rdE t W true fb)) :
    PE X (.Compare a [cmpNeg neg] [b] pos) (rdE t W true (eqOF C cc f neg fa fb)) := by
  refine ⟨fun pins sh σ H Q I h => ?_⟩
  obtain ⟨ev, S, g, sl, w, h⟩ := rd_bind (R1 := RepB t true) h
  refine wpAny_Compare1 (binT ha hb I (R := fun v u H2 => rEqO t C W cc f neg σ v u H2 Q) ?_ fun v u s2 x y H2 I2 rx ry q => eqAny_run c G neg hm hn I2 rx ry q) hk
  refine ⟨ev, S, g, sl, w, h.mono fun v H1 ⟨ev, S1, g1, x, sl1, w1, r1, h1⟩ => ?_⟩
  exact ⟨ev, S1, g1, sl1, w1, (Aft.bind (R1 := RepB t true) h1).mono fun u H2 ⟨y, S2, g2, f2, w2, r2, h2⟩ => ⟨S2, g2, x, y, w2, (RepB.str r1).frm f2, RepB.str r2, h2⟩⟩
theorem blD_bl {neg : Bool} {r d : D} (h : blD neg r = some d) : ∃ k, d = .bl k := by
  unfold blD at h
  split at h
  · cases h; exact ⟨_, rfl⟩
  · cases h
theorem rep_bl {g : Gh} {d : D} {kk : Bool} (h : Rep t g d (.bl kk)) : d = .bl kk := by
  cases d <;> simp [Rep] at h
  rw [h]
theorem pt_eqAnyX (c : Ctx t tb T C k W s X) (G : Glob t tb T C k) {cc f : Nat} {nm : Str} (neg : Bool) (hm : tb.mt cc f = some (("__eq__" : Str), 2)) (hn : tb.cls cc = some nm) (hk : behindInMarks (cmpNeg neg) b = false) (ha : PE X a (rdE t W true fa)) (hb : PE X b (rdE t W true fb)) :
    PT X (.Compare a [cmpNeg neg] [b] pos) (rdT t W (truF (eqOF C cc f neg fa fb))) := by
  refine ⟨fun pins sh σ H Q I h => ?_⟩
  have h : rd t W RepT (fun ev S => (fa ev S).bind fun x S1 => (fb ev S1).bind fun y S2 => (if isInsB S2 cc x && othB S2 cc y then (C.fn f [x, y] [] [] S2).bind fun r S3 => .of (blD neg r) S3 else .bad).bind fun z S3 => .of (truD z) S3) σ H Q := by
    have e : truF (eqOF C cc f neg fa fb) = fun ev S => (fa ev S).bind fun x S1 => (fb ev S1).bind fun y S2 => (if isInsB S2 cc x && othB S2 cc y then (C.fn f [x, y] [] [] S2).bind fun r S3 => .of (blD neg r) S3 else .bad).bind fun z S3 => .of (truD z) S3 := by
      funext ev S
      simp only [truF, eqOF, Out.bind_assoc]
    rw [e] at h
    exact h
  obtain ⟨ev, S, g, sl, w, h⟩ := rd_bind (R1 := RepB t true) h
  refine wpAny_isTrue_Compare1 (binT ha hb I (R := fun v u H2 => rEqO t C W cc f neg σ v u H2 (fun z H3 => ∃ k, z = .bl k ∧ Q k H3)) ?_ fun v u s2 x y H2 I2 rx ry q => thn (eqAny_run c G neg hm hn I2 rx ry q) fun cv s3 ⟨z, H3, I3, r3, kk, e, q3⟩ => ?_) hk
  · refine ⟨ev, S, g, sl, w, h.mono fun v H1 ⟨ev, S1, g1, x, sl1, w1, r1, h1⟩ => ?_⟩
    refine ⟨ev, S1, g1, sl1, w1, (Aft.bind (R1 := RepB t true) h1).mono fun u H2 ⟨y, S2, g2, f2, w2, r2, h2⟩ => ⟨S2, g2, x, y, w2, (RepB.str r1).frm f2, RepB.str r2, ?_⟩⟩
    have h3 := Aft.bind (R1 := RepB t true) h2
    cases o : (if isInsB S2 cc x && othB S2 cc y then (C.fn f [x, y] [] [] S2).bind fun r S3 => Out.of (blD neg r) S3 else .bad : Out D) with
    | bad => rw [o] at h3; exact h3
    | exc e S3 => rw [o] at h3; exact h3
    | ok d S3 =>
      rw [o] at h3
      have hbl : ∃ kk, d = .bl kk := by
        split at o
        · cases oo : C.fn f [x, y] [] [] S2 with
          | bad => rw [oo] at o; cases o
          | exc e S3 => rw [oo] at o; cases o
          | ok r S4 =>
            rw [oo, Out.bind_ok] at o
            cases ob : blD neg r with
            | none => rw [ob] at o; cases o
            | some d' => rw [ob] at o; cases o; exact blD_bl ob
        · cases o
      obtain ⟨kk, rfl⟩ := hbl
      intro v' H' g' f' w' r'
      obtain rfl := (RepB.weak r').bl
      obtain ⟨a1, S5, g5, f5, w5, r5, h5⟩ := h3 _ H' g' f' w' r'
      refine ⟨kk, rfl, ?_⟩
      have : a1 = .bl kk := by
        exact rep_bl (RepB.str r5)
      subst this
      exact h5 kk H' g5 (Frm.refl _ _) w5 rfl
  · subst e
    cases r3
    exact wpAny_truthy_bool ⟨H3, I3, q3⟩
end
end Mp

set_option Elab.async false
set_option linter.all false
set_option maxRecDepth 100000
set_option autoImplicit false
set_option maxHeartbeats 2000000
namespace Mp
open PySem PySem.Spec L2
/-! ### the checker of expressions -/
def strong : E → Bool
  | .pk _ => false
  | _ => true
def notDbg (x : Str) : Bool := !(x == ("__debug__" : Str))
def plainIxB : Expr → Bool
  | .Slice .. => false
  | .Starred .. => false
  | _ => true
/-- a test that is tested by its value -/
def plainT : Expr → Bool
  | .UnaryOp .Not _ _ => false
  | .BoolOp .. => false
  | .IfExp .. => false
  | .Compare .. => false
  | _ => true
def isTupX : Expr → Bool
  | .Tuple .. => true
  | _ => false
mutual
/-- what may stand as a test -/
def testB : E → Expr → Bool
  | .nt a, e => match e with
    | .UnaryOp _ a' _ => testB a a'
    | _ => false
  | .andE a es, e => match e with
    | .BoolOp _ (a' :: es') _ => testB a a' && testBs es es'
    | _ => false
  | .orE a es, e => match e with
    | .BoolOp _ (a' :: es') _ => testB a a' && testBs es es'
    | _ => false
  | .cmp _ _ _, _ => true
  | .cmp2 _ _ _ _ _, _ => true
  | .isN _, _ => true
  | .isNN _, _ => true
  | .eqO _ _ _ _ _, _ => true
  | .dIn _ _ _, _ => true
  | .eqS _ _ _, _ => true
  | .eqI _ _ _, _ => true
  | .ife _ _ _, _ => false
  | .wk _, _ => false
  | _, e => plainT e
def testBs : List E → List Expr → Bool
  | [], _ => true
  | x :: xs, es => match es with
    | e :: es => testB x e && testBs xs es
    | [] => false
end
mutual
def chkTg (s : Sc) : Tg → Expr → Bool
  | .nm i, e => match e with
    | .Name x _ => storeB s i x
    | _ => false
  | .tp ts, e => match e with
    | .Tuple es _ _ => chkTgs s ts es
    | _ => false
def chkTgs (s : Sc) : List Tg → List Expr → Bool
  | [], es => es.isEmpty
  | t :: ts, es => match es with
    | e :: es => chkTg s t e && chkTgs s ts es
    | [] => false
end
def ownOf (N : List Str) (vs : List Nat) : List (Str × Nat) := vs.map fun v => (N.getD v "", v)
def wkB : E → Bool
  | .att _ _ => true
  | .var _ => true
  | _ => false
def chkKs : List Str → List (Option Expr) → Bool
  | [], ks => ks.isEmpty
  | k :: ks, es => match es with
    | some (.Constant (.str k') _ _) :: es => decide (k = k') && chkKs ks es
    | _ => false
def tyChk (tb : Tab) (s : Sc) (y : Ty) : Expr → Bool
  | .Name n _ => (tyName tb y == some n) && kindB s n .globalImplicit && notDbg n
  | _ => false
def tysChk (tb : Tab) (s : Sc) : List Ty → List Expr → Bool
  | [], es => es.isEmpty
  | y :: ys, es => match es with
    | e :: es => tyChk tb s y e && tysChk tb s ys es
    | [] => false
/-- what stands ahead of a dot: no super -/
def inOp (neg : Bool) : CmpOp := if neg then .NotIn else .In
def plainBase : Expr → Bool
  | .Name .. => true
  | .Subscript .. => true
  | .Attribute .. => true
  | .Call _ (_ :: _) _ _ => true
  | _ => false
def mthBase : Expr → Bool
  | .Name .. => true
  | _ => false
mutual
def chkE (tb : Tab) : E → Sc → Expr → Bool
  | .var i, s, e => match e with
    | .Name x _ => slotB s i x
    | _ => false
  | .pk i, s, e => match e with
    | .Name x _ => slotB s i x
    | _ => false
  | .con c, _, e => match e with
    | .Constant c' _ _ => decide (c = c')
    | _ => false
  | .glo x d, s, e => match e with
    | .Name y _ => decide (x = y) && kindB s x .globalImplicit && notDbg x && (match tb.gl.lookup x with | some d' => sameD d' d | none => false)
    | _ => false
  | .bin o a b, s, e => match e with
    | .BinOp a' o' b' _ => decide (o = o') && chkE tb a s a' && chkE tb b s b'
    | _ => false
  | .neg a, s, e => match e with
    | .UnaryOp .USub a' _ => chkE tb a s a'
    | _ => false
  | .nt a, s, e => match e with
    | .UnaryOp .Not a' _ => chkE tb a s a'
    | _ => false
  | .cmp o a b, s, e => match e with
    | .Compare a' [o'] [b'] _ => decide (o = o') && chkE tb a s a' && chkE tb b s b' && !behindInMarks o b'
    | _ => false
  | .cmp2 o1 o2 a b c, s, e => match e with
    | .Compare a' [p1, p2] [b', c'] _ => decide (o1 = p1) && decide (o2 = p2) && chkE tb a s a' && chkE tb b s b' && chkE tb c s c' && !lastMarks [o1, o2] [b', c']
    | _ => false
  | .isN a, s, e => match e with
    | .Compare a' [.Is] [.Constant .none _ _] _ => chkE tb a s a'
    | _ => false
  | .isNN a, s, e => match e with
    | .Compare a' [.IsNot] [.Constant .none _ _] _ => chkE tb a s a'
    | _ => false
  | .andE a es, s, e => match e with
    | .BoolOp .And (a' :: es') _ => strong a && chkE tb a s a' && chkSs tb es s es'
    | _ => false
  | .orE a es, s, e => match e with
    | .BoolOp .Or (a' :: es') _ => strong a && chkE tb a s a' && chkSs tb es s es'
    | _ => false
  | .ife c a b, s, e => match e with
    | .IfExp c' a' b' _ => chkE tb c s c' && testB c c' && strong a && strong b && chkE tb a s a' && chkE tb b s b'
    | _ => false
  | .tupE es, s, e => match e with
    | .Tuple es' _ _ => chkSs tb es s es'
    | _ => false
  | .lstE es, s, e => match e with
    | .List es' _ => chkSs tb es s es'
    | _ => false
  | .celE a, s, e => isFresh a && chkE tb a s e
  | .idx a i, s, e => match e with
    | .Subscript a' i' _ => chkE tb a s a' && chkE tb i s i' && plainIxB i'
    | _ => false
  | .slc a lo hi, s, e => match e with
    | .Subscript a' (.Slice lo' hi' none _) _ => chkE tb a s a' && chkO tb lo s lo' && chkO tb hi s hi'
    | _ => false
  | .att a f, s, e => match e with
    | .Attribute a' f' _ => decide (f = f') && tb.ats.contains f && chkE tb a s a' && plainBase a'
    | _ => false
  | .bcl b es, s, e => match e with
    | .Call (.Name x _) (a' :: es') [] _ => decide (x = biName b) && kindB s x .globalImplicit && chkEs tb es s (a' :: es')
    | _ => false
  | .isI a cs, s, e => match e with
    | .Call (.Name x _) [a', ty] [] _ => decide (x = "isinstance") && kindB s "isinstance" .globalImplicit && chkE tb a s a' && (match ty with
        | .Name n p => (match cs with | [y] => tyChk tb s y (.Name n p) | _ => false)
        | .Tuple es _ _ => tysChk tb s cs es && decide (cs.length ≤ 100)
        | _ => false)
    | _ => false
  | .call f es kn ks, s, e => match e with
    | .Call (.Name x _) (a' :: es') [] _ => kn.isEmpty && ks.isEmpty && kindB s x .globalImplicit && notDbg x && (match tb.fn f with | some (nm, np) => decide (nm = x) && decide (es.length = np) | none => false) && chkSs tb es s (a' :: es')
    | _ => false
  | .callK f kn ks perm, s, e => match e with
    | .Call (.Name x _) [] kws _ => kindB s x .globalImplicit && notDbg x && (tb.fn f == some (x, ks.length)) && tb.kf.contains (f, 0, kn, perm) && decide (kn.length = ks.length) && chkKw tb kn ks s kws
    | _ => false
  | .mk c ini es, s, e => match e with
    | .Call (.Name x _) (a' :: es') [] _ => kindB s x .globalImplicit && notDbg x && (tb.cls c == some x) && (tb.mt c ini == some (("__init__" : Str), es.length + 1)) && chkSs tb es s (a' :: es')
    | _ => false
  | .mkK c ini kn ks perm, s, e => match e with
    | .Call (.Name x _) [] kws _ => kindB s x .globalImplicit && notDbg x && (tb.cls c == some x) && (tb.mt c ini == some (("__init__" : Str), ks.length + 1)) && tb.kw.contains (c, ini, kn, perm) && decide (kn.length = ks.length) && chkKw tb kn ks s kws
    | _ => false
  | .mth c f m a es, s, e => match e with
    | .Call (.Attribute a' m' ap) es' [] pos => decide (m = m') && (tb.mt c f == some (m, es.length + 1)) && strong a && chkE tb a s a' && mthBase a' && chkSs tb es s es' && decide (es'.length < 30) && (ap.endLine == pos.line)
    | _ => false
  | .eqO c f neg a b, s, e => match e with
    | .Compare a' [o] [b'] _ => (match o, neg with | .Eq, false => true | .NotEq, true => true | _, _ => false) && (tb.mt c f == some (("__eq__" : Str), 2)) && (tb.cls c).isSome && strong a && strong b && chkE tb a s a' && chkE tb b s b' && !behindInMarks o b'
    | _ => false
  | .lenO c f a, s, e => match e with
    | .Call (.Name x _) [a'] [] _ => decide (x = "len") && kindB s "len" .globalImplicit && (tb.mt c f == some (("__len__" : Str), 1)) && strong a && chkE tb a s a'
    | _ => false
  | .idxO c f a i, s, e => match e with
    | .Subscript a' i' _ => (tb.mt c f == some (("__getitem__" : Str), 2)) && strong a && strong i && chkE tb a s a' && chkE tb i s i' && plainIxB i'
    | _ => false
  | .wk a, s, e => wkB a && strong a && chkE tb a s e
  | .tpF a, s, e => match e with
    | .Call (.Name x _) [a'] [] _ => decide (x = "tuple") && kindB s x .globalImplicit && chkE tb a s a'
    | _ => false
  | .eqS neg a b, s, e => match e with
    | .Compare a' [o] [b'] _ => decide (o = opOf neg) && chkE tb a s a' && chkE tb b s b' && !behindInMarks o b'
    | _ => false
  | .eqI neg a b, s, e => match e with
    | .Compare a' [o] [b'] _ => decide (o = opOf neg) && chkE tb a s a' && chkE tb b s b' && !behindInMarks o b'
    | _ => false
  | .catS a b, s, e => match e with
    | .BinOp a' o b' _ => decide (o = .Add) && chkE tb a s a' && chkE tb b s b'
    | _ => false
  | .ixo tp a b, s, e => match e with
    | .Call (.Attribute a' m ap) [b'] [] cp => decide (m = "index") && strong a && chkE tb a s a' && plainBase a' && chkE tb b s b' && (ap.endLine == cp.line)
    | _ => false
  | .dgt ks vs a d, s, e => match e with
    | .Call (.Attribute (.Dict keys values _) m ap) [a', d'] [] cp => decide (m = "get") && chkKs ks keys && chkSs tb vs s values && decide (ks.length = vs.length) && decide (ks.length ≤ 15) && !ks.isEmpty && chkE tb a s a' && strong d && chkE tb d s d' && (ap.endLine == cp.line)
    | _ => false
  | .dicE ks vs, s, e => match e with
    | .Dict keys values _ => chkKs ks keys && chkSs tb vs s values && decide (ks.length = vs.length) && decide (ks.length ≤ 15)
    | _ => false
  | .lc el tg it ifs vs, s, e => match e with
    | .ListComp el' [⟨tg', it', ifs', 0⟩] scope _ => chkI tb it s tg' it' && blkC s.N s.sc scope (ownOf s.N vs) && chkTg ⟨s.N, scope, false, false⟩ tg tg' && (slotsT tg).all (vs.contains ·) && (match scope.kind with | .function => true | _ => false) &&
        chkOne tb ifs ⟨s.N, scope, false, false⟩ ifs' && strong el && chkE tb el ⟨s.N, scope, false, false⟩ el'
    | _ => false
  | .callT f b, s, e => match e with
    | .Call (.Name x _) [.Lambda params body scope _] [] _ => (tb.ft f == some x) && kindB s x .globalImplicit && notDbg x && s.lm && lamChk s.sc scope && noPar params && strong b && chkE tb b ⟨s.N, scope, false, false⟩ body
    | _ => false
  | .thk i, s, e => match e with
    | .Call (.Name y _) [] [] _ => (i == 0) && s.tk && (s.N[0]? == some y)
    | _ => false
  | .dcE ks vs, s, e => match e with
    | .Dict keys values _ => chkKs ks keys && chkSs tb vs s values && decide (ks.length = vs.length) && decide (ks.length ≤ 15)
    | _ => false
  | .dget a k, s, e => match e with
    | .Subscript a' k' _ => chkE tb a s a' && chkE tb k s k' && plainIxB k'
    | _ => false
  | .dget2 a k d, s, e => match e with
    | .Call (.Attribute a' m ap) [k', d'] [] cp => decide (m = "get") && chkE tb a s a' && plainBase a' && chkE tb k s k' && strong d && chkE tb d s d' && (ap.endLine == cp.line)
    | _ => false
  | .dIn neg k a, s, e => match e with
    | .Compare k' [o] [a'] _ => decide (o = inOp neg) && chkE tb k s k' && chkE tb a s a' && !behindInMarks o a'
    | _ => false
def chkEs (tb : Tab) : List E → Sc → List Expr → Bool
  | [], _, es => es.isEmpty
  | x :: xs, s, es => match es with
    | e :: es => chkE tb x s e && chkEs tb xs s es
    | [] => false
/-- .. all of them strong -/
def chkSs (tb : Tab) : List E → Sc → List Expr → Bool
  | [], _, es => es.isEmpty
  | x :: xs, s, es => match es with
    | e :: es => strong x && chkE tb x s e && chkSs tb xs s es
    | [] => false
def chkKw (tb : Tab) : List Str → List E → Sc → List Keyword → Bool
  | [], ks, _, kws => ks.isEmpty && kws.isEmpty
  | n :: kn, ks, s, kws => match ks, kws with
    | x :: ks, kw :: kws => (kw.arg == some n) && strong x && chkE tb x s kw.value && chkKw tb kn ks s kws
    | _, _ => false
def chkO (tb : Tab) : Option E → Sc → Option Expr → Bool
  | none, _, e => e.isNone
  | some x, s, e => match e with
    | some e => chkE tb x s e
    | none => false
/-- at most one test -/
def chkOne (tb : Tab) : List E → Sc → List Expr → Bool
  | [], _, es => es.isEmpty
  | x :: xs, s, es => xs.isEmpty && (match es with
    | [e] => chkE tb x s e && testB x e
    | _ => false)
def chkI (tb : Tab) : I → Sc → Expr → Expr → Bool
  | .seq x, s, _, e => strong x && chkE tb x s e 
  | .rng xs, s, _, e => match e with
    | .Call (.Name x _) es [] _ => decide (x = "range") && kindB s "range" .globalImplicit && chkEs tb xs s es && (decide (es.length = 1) || decide (es.length = 2))
    | _ => false
  | .enm x, s, tg, e => match e with
    | .Call (.Name n _) [e'] [] _ => decide (n = "enumerate") && kindB s "enumerate" .globalImplicit && strong x && chkE tb x s e' && isTupX tg
    | _ => false
  | .zip a b, s, tg, e => match e with
    | .Call (.Name n _) [a', b'] [] _ => decide (n = "zip") && kindB s "zip" .globalImplicit && strong a && strong b && chkE tb a s a' && chkE tb b s b' && isTupX tg
    | _ => false
end
theorem all_noStar {env : Env} {pos : Pos} : ∀ {es : List Expr}, (∀ e ∈ es, ∀ v p, e ≠ .Starred v p) → (backTo pos (starEach es env)).all (!·.1) = true
  | [], _ => rfl
  | e :: es, h => by
    rw [star1 (h e List.mem_cons_self)]
    have := all_noStar (env := env) (pos := pos) (es := es) fun e he => h e (List.mem_cons_of_mem _ he)
    unfold backTo at this ⊢
    rw [List.map_cons, List.all_cons, this]
    rfl
theorem eval_mth {x m : Str} {p apos pos : Pos} {es : List Expr} {env : Env} (h : ∀ e ∈ es, ∀ v p, e ≠ .Starred v p) (hl : es.length < 30) (hq : (apos.endLine == pos.line) = true) :
    eval (.Call (.Attribute (.Name x p) m apos) es [] pos) env = (do
      let ov ← eval (.Name x p) env
      standAt apos.atName
      let (f, first) ← holding [ov] (getMethod ov m (do return (← importBound (.Name x p) env).getD true))
      callWith pos f first (backTo pos (starEach es env)) (backToKw pos (keywordEach [] env))) := by
  have hf : methodCallForm (es.length + ([] : List Keyword).length) (backTo pos (starEach es env)) (backToKw pos (keywordEach [] env)) = true := by
    unfold methodCallForm
    rw [all_noStar h]
    simp [keywordEach, backToKw, hl]
  conv => lhs; unfold eval
  unfold methodCall
  have hp : methodCallPos true (.Name x p) env apos pos = pure pos := by unfold methodCallPos; simp only [hq]; rfl
  simp only [hf, hp, calleeOf, if_true]
  rfl
end Mp

set_option Elab.async false
set_option linter.all false
set_option maxRecDepth 100000
set_option autoImplicit false
set_option maxHeartbeats 1000000
namespace Mp
open PySem PySem.Spec L2
theorem isTrue_plain' {e : Expr} {env : Env} (h : plainT e = true) : ∀ whole, isTrue e env whole = (do let v ← whole; standAt e.pos; holding [v] (truthy v)) := by
  intro whole
  cases e with
  | UnaryOp op a p => cases op <;> first | rfl | (simp only [plainT] at h; cases h)
  | BoolOp => simp only [plainT] at h; cases h
  | IfExp => simp only [plainT] at h; cases h
  | Compare => simp only [plainT] at h; cases h
  | _ => rfl
theorem plainIx_of {e : Expr} (h : plainIxB e = true) : PlainIx e := by
  intro o i
  cases e with
  | Slice => simp only [plainIxB] at h; cases h
  | _ => rfl
theorem noSl_of {e : Expr} (h : plainIxB e = true) : NoSl e := by
  intro o i
  cases e with
  | Slice => simp only [plainIxB] at h; cases h
  | _ => rfl
theorem mthBase_name {e : Expr} (h : mthBase e = true) : ∃ x p, e = .Name x p := by
  cases e <;> first | exact ⟨_, _, rfl⟩ | (simp [mthBase] at h; done)
theorem subT_of {e : Expr} (h : plainIxB e = true) : ∀ o i, subscripted e true o i = runValue (.builtin "lifetime.subscript" ⟨[o, i], []⟩) := by
  intro o i
  cases e with
  | Slice => simp only [plainIxB] at h; cases h
  | _ => rfl
section
variable {t : Tp} {tb : Tab} {T : Top} {C : Cl} {k : Nat}
theorem chk_noStar : ∀ (x : E) (s : Sc) (e : Expr), chkE tb x s e = true → ∀ v p, e ≠ .Starred v p := by
  intro x s e h v p z
  subst z
  cases x with
  | celE a =>
    simp only [chkE, Bool.and_eq_true] at h
    obtain ⟨h0, h⟩ := h
    cases a <;> first | (simp [chkE] at h; done) | (simp [isFresh] at h0; done)
  | wk a =>
    simp only [chkE, Bool.and_eq_true] at h
    obtain ⟨⟨h0, _⟩, h⟩ := h
    cases a <;> first | (simp [chkE] at h; done) | (simp [wkB] at h0; done)
  | _ => simp [chkE] at h
theorem chkEs_noStar : ∀ (xs : List E) (s : Sc) (es : List Expr), chkEs tb xs s es = true → ∀ e ∈ es, ∀ v p, e ≠ .Starred v p
  | [], s, es, h, e, he => by
    simp only [chkEs, List.isEmpty_iff] at h
    subst h; cases he
  | x :: xs, s, es, h, e, he => by
    cases es with
    | nil => cases he
    | cons e' es =>
      simp only [chkEs, Bool.and_eq_true] at h
      rcases List.mem_cons.mp he with z | z
      · subst z; exact chk_noStar x s e h.1
      · exact chkEs_noStar xs s es h.2 e z
theorem chkSs_chkEs : ∀ (xs : List E) (s : Sc) (es : List Expr), chkSs tb xs s es = true → chkEs tb xs s es = true ∧ (xs.map strong).all id = true
  | [], s, es, h => by simp only [chkSs] at h; exact ⟨by simpa only [chkEs] using h, rfl⟩
  | x :: xs, s, es, h => by
    cases es with
    | nil => simp only [chkSs] at h; cases h
    | cons e es =>
      simp only [chkSs, Bool.and_eq_true] at h
      obtain ⟨a, b⟩ := chkSs_chkEs xs s es h.2
      exact ⟨by simp only [chkEs, Bool.and_eq_true]; exact ⟨h.1.2, a⟩, by simp [h.1.1, b]⟩
theorem assign1 {e : Expr} {es : List Expr} {env : Env} (h : ∀ v p, e ≠ .Starred v p) : assignEach (e :: es) env = (false, assign e env) :: assignEach es env := by
  cases e <;> first | rfl | exact absurd rfl (h _ _)
mutual
theorem soundTg {s : Sc} {W : WX} {X : Cx} (c : Ctx t tb T C k W s X) : ∀ (tg : Tg) (e : Expr), chkTg s tg e = true → PG X e (gX t tg) ∧ ∀ v p, e ≠ .Starred v p
  | .nm i, e, h => by
    simp only [chkTg] at h
    split at h
    · obtain ⟨h1, h2, h3⟩ := c.store h
      exact ⟨pg_nm c.ndX h1 h2 h3, fun v p z => nomatch z⟩
    · cases h
  | .tp ts, e, h => by
    simp only [chkTg] at h
    split at h
    · obtain ⟨h1, h2, h3, h4⟩ := soundTgs c ts _ h
      exact ⟨pg_tp c.hK c.calm h1 h2 h3 h4, fun v p z => nomatch z⟩
    · cases h
theorem soundTgs {s : Sc} {W : WX} {X : Cx} (c : Ctx t tb T C k W s X) : ∀ (ts : List Tg) (es : List Expr), chkTgs s ts es = true → PGs X es (gXs t ts) ∧ es.length = ts.length ∧ (assignEach es X.env).length = es.length ∧ (assignEach es X.env).findIdx? (·.1) = none
  | [], es, h => by
    simp only [chkTgs, List.isEmpty_iff] at h
    subst h
    exact ⟨pgs_nilX, rfl, rfl, rfl⟩
  | tg :: ts, es, h => by
    cases es with
    | nil => simp only [chkTgs] at h; cases h
    | cons e es =>
      simp only [chkTgs, Bool.and_eq_true] at h
      obtain ⟨a1, a2⟩ := soundTg c tg e h.1
      obtain ⟨b1, b2, b3, b4⟩ := soundTgs c ts es h.2
      have ea := assign1 (es := es) (env := X.env) a2
      refine ⟨pgs_consX a1 b1 (by rw [ea]; rfl), by simp [b2], by rw [ea]; simp [b3], ?_⟩
      rw [ea, List.findIdx?_cons, b4]
      rfl
end
theorem tys_ok {W : WX} {s : Sc} {X : Cx} (c : Ctx t tb T C k W s X) (G : Glob t tb T C k) : ∀ (ys : List Ty) (es : List Expr), tysChk tb s ys es = true → TysOk t tb X ys es
  | [], es, h => by
    simp only [tysChk, List.isEmpty_iff] at h
    subst h; trivial
  | y :: ys, es, h => by
    cases es with
    | nil => simp only [tysChk] at h; cases h
    | cons e es =>
      simp only [tysChk, Bool.and_eq_true] at h
      obtain ⟨h1, h2⟩ := h
      unfold tyChk at h1
      split at h1
      · simp only [Bool.and_eq_true, notDbg, Bool.not_eq_true'] at h1
        exact ⟨pe_ty c G (eq_of_beq h1.1.1) h1.1.2 h1.2, (fun v p z => nomatch z), tys_ok c G ys es h2⟩
      · cases h1
theorem blkOk_of {W : WX} {s : Sc} {X : Cx} (c : Ctx t tb T C k W s X) {scope : Scope} {own : List (Str × Nat)} (h : blkC s.N s.sc scope own = true) : BlkOk s.N X.env.scope scope own := by
  have b := blkOk_by h
  refine ⟨b.kind, b.uniq, b.ix, fun y hy e => ?_, b.own⟩
  rcases b.free y hy e with z | z
  · rcases c.kd _ _ z with q | q
    · exact .inl q
    · cases q.1
  · rcases c.kd _ _ z with q | q
    · exact .inr q
    · exact .inl q.2
theorem folded_not {e : Expr} {env : Env} {x : Value} (h : ∀ a b p, e ≠ .Set a b p) : foldedSetIterable e env x = pure x := by
  cases e <;> first | rfl | exact absurd rfl (h _ _ _)
theorem chk_noSet (x : E) (s : Sc) (e : Expr) (h : chkE tb x s e = true) : ∀ a b p, e ≠ .Set a b p := by
  intro a b p z
  subst z
  cases x with
  | celE a =>
    simp only [chkE, Bool.and_eq_true] at h
    obtain ⟨h0, h⟩ := h
    cases a <;> first | (simp [chkE] at h; done) | (simp [isFresh] at h0; done)
  | wk a =>
    simp only [chkE, Bool.and_eq_true] at h
    obtain ⟨⟨h0, _⟩, h⟩ := h
    cases a <;> first | (simp [chkE] at h; done) | (simp [wkB] at h0; done)
  | _ => simp [chkE] at h
theorem folded_ok {env : Env} : ∀ (it : I) (s : Sc) (tg e : Expr), chkI tb it s tg e = true → ∀ x, foldedSetIterable e env x = pure x
  | .seq x, s, tg, e, h, v => by
    simp only [chkI, Bool.and_eq_true] at h
    exact folded_not (chk_noSet x s e h.2)
  | .rng xs, s, tg, e, h, v => by
    simp only [chkI] at h
    split at h
    · rfl
    · cases h
  | .enm x, s, tg, e, h, v => by
    simp only [chkI] at h
    split at h
    · rfl
    · cases h
  | .zip a b, s, tg, e, h, v => by
    simp only [chkI] at h
    split at h
    · rfl
    · cases h
theorem PTs.imp {X : Cx} {e : List Expr} {u u' : TT} (h : PTs X e u) (k : ∀ σ H Q, u' σ H Q → u σ H Q) : PTs X e u' := ⟨fun pins s σ H Q I hw => h.run pins s σ H Q I (k _ _ _ hw)⟩
theorem evTests_one (C : Cl) (x : E) : evTests C [x] = truF (evE C x) := by
  funext ev S
  simp only [evTests, truF]
  generalize evE C x ev S = o
  cases o with
  | ok d S1 =>
    simp only [Out.bind_ok]
    cases truD d with
    | none => rfl
    | some b => cases b <;> rfl
  | exc e S1 => rfl
  | bad => rfl
/-- both readings of an expression -/
def Snd (t : Tp) (C : Cl) (W : WX) (X : Cx) (x : E) (e : Expr) : Prop := PE X e (rdE t W (strong x) (evE C x)) ∧ (testB x e = true → PT X e (rdT t W (truF (evE C x))))
theorem Snd.of {W : WX} {s : Sc} {X : Cx} (c : Ctx t tb T C k W s X) {x : E} {e : Expr} (h : PE X e (rdE t W (strong x) (evE C x))) (hp : testB x e = true → plainT e = true) : Snd t C W X x e :=
  ⟨h, fun ht => pt_truX c.hK h (isTrue_plain' (hp ht))⟩
mutual
theorem sound (G : Glob t tb T C k) : ∀ (x : E) {W : WX} {s : Sc} {X : Cx} (c : Ctx t tb T C k W s X) (e : Expr), chkE tb x s e = true → Snd t C W X x e
  | .var i, W, s, X, c, e, h => by
    simp only [chkE] at h
    split at h
    · have e1 : evE C (.var i) = fun ev S => .of (getS ev i) S := by funext ev S; simp only [evE]
      exact Snd.of c (by rw [e1]; exact pe_varX c h) fun _ => rfl
    · cases h
  | .pk i, W, s, X, c, e, h => by
    simp only [chkE] at h
    split at h
    · have e1 : evE C (.pk i) = fun ev S => .of (peekS ev i) S := by funext ev S; simp only [evE]
      exact Snd.of c (by rw [e1]; exact pe_pkX c h) fun _ => rfl
    · cases h
  | .con cc, W, s, X, c, e, h => by
    simp only [chkE] at h
    split at h
    · obtain rfl := of_decide_eq_true h
      have e1 : evE C (.con cc) = fun _ S => .of (conD cc) S := by funext ev S; simp only [evE]
      exact Snd.of c (by rw [e1]; exact pe_conX) fun _ => rfl
    · cases h
  | .glo x d, W, s, X, c, e, h => by
    simp only [chkE] at h
    split at h
    · simp only [Bool.and_eq_true, decide_eq_true_eq, notDbg, Bool.not_eq_true'] at h
      obtain ⟨⟨⟨rfl, h1⟩, h2⟩, h3⟩ := h
      split at h3
      · rename_i d' hd
        have := sameD_eq _ _ h3
        subst this
        have e1 : evE C (.glo x d') = fun _ S => .ok d' S := by funext ev S; simp only [evE]
        exact Snd.of c (by rw [e1]; exact pe_gloX c G h1 h2 hd) fun _ => rfl
      · cases h3
    · cases h
  | .bin o a b, W, s, X, c, e, h => by
    simp only [chkE] at h
    split at h
    · simp only [Bool.and_eq_true, decide_eq_true_eq] at h
      obtain ⟨⟨rfl, h1⟩, h2⟩ := h
      have e1 : evE C (.bin o a b) = fun ev S => (evE C a ev S).bind fun x S1 => (evE C b ev S1).bind fun y S2 => .of (binD o x y) S2 := by funext ev S; simp only [evE]
      exact Snd.of c (by rw [e1]; exact pe_bin c.hK o (sound G a c _ h1).1 (sound G b c _ h2).1) fun _ => rfl
    · cases h
  | .neg a, W, s, X, c, e, h => by
    simp only [chkE] at h
    split at h
    · have e1 : evE C (.neg a) = fun ev S => (evE C a ev S).bind fun x S1 => .of (negD x) S1 := by funext ev S; simp only [evE]
      exact Snd.of c (by rw [e1]; exact pe_neg (sound G a c _ h).1) fun _ => rfl
    · cases h
  | .nt a, W, s, X, c, e, h => by
    simp only [chkE] at h
    split at h
    · have e1 : evE C (.nt a) = notF (evE C a) := by funext ev S; simp only [evE, notF]
      have ih := sound G a c _ h
      refine ⟨by rw [e1]; exact pe_notX c.hK ih.1, fun ht => ?_⟩
      rw [e1, truF_not]
      simp only [testB] at ht
      exact pt_notX (ih.2 ht)
    · cases h
  | .cmp o a b, W, s, X, c, e, h => by
    simp only [chkE] at h
    split at h
    · simp only [Bool.and_eq_true, decide_eq_true_eq, Bool.not_eq_true'] at h
      obtain ⟨⟨⟨rfl, h1⟩, h2⟩, h3⟩ := h
      have e1 : evE C (.cmp o a b) = cmpF o (evE C a) (evE C b) := by funext ev S; simp only [evE, cmpF]
      refine ⟨by rw [e1]; exact pe_cmpX c.hK c.un o h3 (sound G a c _ h1).1 (sound G b c _ h2).1, fun _ => ?_⟩
      rw [e1, truF_cmp]
      exact pt_cmpX c.hK c.un o h3 (sound G a c _ h1).1 (sound G b c _ h2).1
    · cases h
  | .cmp2 o1 o2 a b d, W, s, X, c, e, h => by
    simp only [chkE] at h
    split at h
    · simp only [Bool.and_eq_true, decide_eq_true_eq, Bool.not_eq_true'] at h
      obtain ⟨⟨⟨⟨⟨rfl, rfl⟩, h1⟩, h2⟩, h3⟩, h4⟩ := h
      have e1 : evE C (.cmp2 o1 o2 a b d) = chainF o1 o2 (evE C a) (evE C b) (evE C d) := by funext ev S; simp only [evE, chainF]
      refine ⟨by rw [e1]; exact pe_chainX c.hK c.un h4 (sound G a c _ h1).1 (sound G b c _ h2).1 (sound G d c _ h3).1, fun _ => ?_⟩
      rw [e1]
      exact pt_chainX c.hK c.un h4 (sound G a c _ h1).1 (sound G b c _ h2).1 (sound G d c _ h3).1
    · cases h
  | .isN a, W, s, X, c, e, h => by
    simp only [chkE] at h
    split at h
    · have e1 : evE C (.isN a) = isNF false (evE C a) := by funext ev S; simp only [evE, isNF] <;> rfl
      refine ⟨by rw [e1]; exact pe_isNX (sound G a c _ h).1, fun _ => ?_⟩
      rw [e1]; exact pt_isNX (sound G a c _ h).1
    · cases h
  | .isNN a, W, s, X, c, e, h => by
    simp only [chkE] at h
    split at h
    · have e1 : evE C (.isNN a) = isNF true (evE C a) := by funext ev S; simp only [evE, isNF] <;> rfl
      refine ⟨by rw [e1]; exact pe_isNNX (sound G a c _ h).1, fun _ => ?_⟩
      rw [e1]; exact pt_isNNX (sound G a c _ h).1
    · cases h
  | .andE a es, W, s, X, c, e, h => by
    simp only [chkE] at h
    split at h
    · simp only [Bool.and_eq_true] at h
      obtain ⟨⟨h0, h1⟩, h2⟩ := h
      have ih := sound G a c _ h1
      have e1 : evE C (.andE a es) = fun ev S => (evE C a ev S).bind fun x S1 => evAnd C x es ev S1 := by funext ev S; simp only [evE]
      rw [Snd, h0] at ih
      have r := fun p => soundAnd G es c _ h2 (pos := p) ih.1
      refine ⟨by rw [e1]; exact (r _).1, fun ht => ?_⟩
      simp only [testB, Bool.and_eq_true] at ht
      rw [e1]
      exact ((r _).2 (ih.2 ht.1) ht.2).pt
    · cases h
  | .orE a es, W, s, X, c, e, h => by
    simp only [chkE] at h
    split at h
    · simp only [Bool.and_eq_true] at h
      obtain ⟨⟨h0, h1⟩, h2⟩ := h
      have ih := sound G a c _ h1
      have e1 : evE C (.orE a es) = fun ev S => (evE C a ev S).bind fun x S1 => evOr C x es ev S1 := by funext ev S; simp only [evE]
      rw [Snd, h0] at ih
      have r := fun p => soundOr G es c _ h2 (pos := p) ih.1
      refine ⟨by rw [e1]; exact (r _).1, fun ht => ?_⟩
      simp only [testB, Bool.and_eq_true] at ht
      rw [e1]
      exact ((r _).2 (ih.2 ht.1) ht.2).pt
    · cases h
  | .ife cc a b, W, s, X, c, e, h => by
    simp only [chkE] at h
    split at h
    · simp only [Bool.and_eq_true] at h
      obtain ⟨⟨⟨⟨⟨h1, h2⟩, h3⟩, h4⟩, h5⟩, h6⟩ := h
      have e1 : evE C (.ife cc a b) = fun ev S => (truF (evE C cc) ev S).bind fun k S2 => if k then evE C a ev S2 else evE C b ev S2 := by
        funext ev S; simp only [evE, truF, Out.bind_assoc]
      have ia := (sound G a c _ h5).1
      have ib := (sound G b c _ h6).1
      rw [h3] at ia
      rw [h4] at ib
      refine ⟨by rw [e1]; exact pe_ifX ((sound G cc c _ h1).2 h2) ia ib, fun ht => ?_⟩
      simp only [testB] at ht
      cases ht
    · cases h
  | .tupE es, W, s, X, c, e, h => by
    simp only [chkE] at h
    split at h
    · obtain ⟨h1, h2⟩ := chkSs_chkEs es s _ h
      have e1 : evE C (.tupE es) = fun ev S => (evEs C es ev S).bind fun l S1 => if lineB l.length then .ok (.tup l) S1 else .bad := by funext ev S; simp only [evE]
      exact Snd.of c (by rw [e1]; exact pe_tupX h2 (soundEs G es c _ h1)) fun _ => rfl
    · cases h
  | .lstE es, W, s, X, c, e, h => by
    simp only [chkE] at h
    split at h
    · obtain ⟨h1, h2⟩ := chkSs_chkEs es s _ h
      have e1 : evE C (.lstE es) = fun ev S => (evEs C es ev S).bind fun l S1 => if lineB l.length then .ok (.lst l) S1 else .bad := by funext ev S; simp only [evE]
      exact Snd.of c (by rw [e1]; exact PE.ofF (pf_lstX h2 (soundEs G es c _ h1))) fun _ => rfl
    · cases h
  | .celE a, W, s, X, c, e, h => by
    simp only [chkE, Bool.and_eq_true] at h
    have e1 : evE C (.celE a) = celF (evE C a) := by funext ev S; simp only [evE, celF] <;> rfl
    refine Snd.of c ?_ fun ht => by simpa only [testB] using ht
    rw [e1]
    exact PE.celF (soundF G a c _ h.1 h.2)
  | .idx a i, W, s, X, c, e, h => by
    simp only [chkE] at h
    split at h
    · simp only [Bool.and_eq_true] at h
      obtain ⟨⟨h1, h2⟩, h3⟩ := h
      have e1 : evE C (.idx a i) = fun ev S => (evE C a ev S).bind fun x S1 => (evE C i ev S1).bind fun y S2 => .of (idxD S2 x y) S2 := by funext ev S; simp only [evE]
      exact Snd.of c (by rw [e1]; exact pe_idxX c.hK (plainIx_of h3) (sound G a c _ h1).1 (sound G i c _ h2).1) fun _ => rfl
    · cases h
  | .slc a lo hi, W, s, X, c, e, h => by
    simp only [chkE] at h
    split at h
    · simp only [Bool.and_eq_true] at h
      obtain ⟨⟨h1, h2⟩, h3⟩ := h
      have e1 : evE C (.slc a lo hi) = fun ev S => (evE C a ev S).bind fun x S1 => (evO C lo ev S1).bind fun l S2 => (evO C hi ev S2).bind fun u S3 => .of (slcD S3 x l u) S3 := by funext ev S; simp only [evE]
      exact Snd.of c (by rw [e1]; exact pe_slcX c.hK (sound G a c _ h1).1 (soundO G lo c _ h2) (soundO G hi c _ h3)) fun _ => rfl
    · cases h
  | .att a f, W, s, X, c, e, h => by
    simp only [chkE] at h
    split at h
    · simp only [Bool.and_eq_true, decide_eq_true_eq] at h
      obtain ⟨⟨⟨rfl, h1⟩, h2⟩, h3⟩ := h
      have e1 : evE C (.att a f) = fun ev S => (evE C a ev S).bind fun x S1 => .of (attD S1 f x) S1 := by funext ev S; simp only [evE]
      refine Snd.of c ?_ fun _ => rfl
      rw [e1]
      refine pe_attX c G (by simpa using h1) (sound G a c _ h2).1 ?_
      rename_i a' _
      cases a' with
      | Call fn args kw p =>
        cases args with
        | nil => simp only [plainBase] at h3; cases h3
        | cons _ _ => cases fn <;> rfl
      | _ => first | rfl | (simp only [plainBase] at h3; cases h3)
    · cases h
  | .bcl b es, W, s, X, c, e, h => by
    simp only [chkE] at h
    split at h
    · simp only [Bool.and_eq_true, decide_eq_true_eq] at h
      obtain ⟨⟨rfl, h1⟩, h2⟩ := h
      have e1 : evE C (.bcl b es) = fun ev S => (evEs C es ev S).bind fun l S1 => .of (biD S1 b l) S1 := by funext ev S; simp only [evE]
      have ns := chkEs_noStar es s _ h2
      refine Snd.of c ?_ fun _ => rfl
      rw [e1]
      exact pe_biX c.hK c.calm (c.gl h1) (by rw [c.hg]; exact G.bn _ (by cases b <;> decide)) (soundEs G es c _ h2) (star1 (ns _ List.mem_cons_self)) (starN fun e he => ns e (List.mem_cons_of_mem _ he))
    · cases h
  | .isI a cs, W, s, X, c, e, h => by
    simp only [chkE] at h
    split at h
    · simp only [Bool.and_eq_true, decide_eq_true_eq] at h
      obtain ⟨⟨⟨rfl, h1⟩, h2⟩, h3⟩ := h
      have e1 : evE C (.isI a cs) = fun ev S => (evE C a ev S).bind fun x S1 => if okI S1 x then .ok (.bl (cs.any (isD S1 x))) S1 else .bad := by funext ev S; simp only [evE]
      refine Snd.of c ?_ fun _ => rfl
      rw [e1]
      split at h3
      · split at h3
        · simp only [tyChk, Bool.and_eq_true, notDbg, Bool.not_eq_true'] at h3
          exact pe_isi1X c G h1 (eq_of_beq h3.1.1) h3.1.2 h3.2 (sound G a c _ h2).1 (chk_noStar a s _ h2)
        · cases h3
      · simp only [Bool.and_eq_true, decide_eq_true_eq] at h3
        exact pe_isiNX c G h1 h3.2 (tys_ok c G _ _ h3.1) (sound G a c _ h2).1 (chk_noStar a s _ h2)
      · cases h3
    · cases h
  | .call f es kn ks, W, s, X, c, e, h => by
    simp only [chkE] at h
    split at h
    · simp only [Bool.and_eq_true, notDbg, Bool.not_eq_true', List.isEmpty_iff] at h
      obtain ⟨⟨⟨⟨⟨rfl, rfl⟩, h1⟩, h2⟩, h3⟩, h4⟩ := h
      split at h3
      · rename_i nm np hf
        simp only [Bool.and_eq_true, decide_eq_true_eq] at h3
        obtain ⟨rfl, hn⟩ := h3
        obtain ⟨h5, h6⟩ := chkSs_chkEs es s _ h4
        have e1 : evE C (.call f es [] []) = fun ev S => (evEs C es ev S).bind fun l S1 => C.fn f l [] [] S1 := by funext ev S; simp only [evE, evEs, Out.bind_ok]
        refine Snd.of c ?_ fun _ => rfl
        rw [e1]
        exact pe_callX c G hf h1 h2 h6 (by rw [List.length_map]; exact hn) (soundEs G es c _ h5) (chkEs_noStar es s _ h5)
      · cases h3
    · cases h
  | .mk cc ini es, W, s, X, c, e, h => by
    simp only [chkE] at h
    split at h
    · simp only [Bool.and_eq_true, notDbg, Bool.not_eq_true'] at h
      obtain ⟨⟨⟨⟨h1, h2⟩, h3⟩, h4⟩, h5⟩ := h
      obtain ⟨h6, h7⟩ := chkSs_chkEs es s _ h5
      have e1 : evE C (.mk cc ini es) = fun ev S => (evEs C es ev S).bind fun l S1 => makeD C cc ini l S1 := by funext ev S; simp only [evE]
      refine Snd.of c ?_ fun _ => rfl
      rw [e1]
      exact pe_mkX c G (eq_of_beq h4) (eq_of_beq h3) h1 h2 h7 (by rw [List.length_map]) (soundEs G es c _ h6) (chkEs_noStar es s _ h6)
    · cases h
  | .callK f kn ks perm, W, s, X, c, e, h => by
    simp only [chkE] at h
    split at h
    · simp only [Bool.and_eq_true, notDbg, Bool.not_eq_true', decide_eq_true_eq] at h
      obtain ⟨⟨⟨⟨⟨h1, h2⟩, h3⟩, h5⟩, h6⟩, h7⟩ := h
      obtain ⟨p1, p2, p3, p4, p5⟩ := soundKw G ks c kn _ h7
      have e1 : evE C (.callK f kn ks perm) = fun ev S => (evEs C ks ev S).bind fun l S1 => match permL l perm with | some l' => C.fn f l' [] [] S1 | none => .bad := by funext ev S; simp only [evE] <;> rfl
      refine Snd.of c ?_ fun _ => rfl
      rw [e1]
      exact pe_callK0X c G (eq_of_beq h3) h1 h2 p2 (by rw [List.length_map]; exact h6.symm) (by simpa using h5) p1 (p3 _) (p4 _) (p5 _)
    · cases h
  | .mkK cc ini kn ks perm, W, s, X, c, e, h => by
    simp only [chkE] at h
    split at h
    · simp only [Bool.and_eq_true, notDbg, Bool.not_eq_true', decide_eq_true_eq] at h
      obtain ⟨⟨⟨⟨⟨⟨h1, h2⟩, h3⟩, h4⟩, h5⟩, h6⟩, h7⟩ := h
      obtain ⟨p1, p2, p3, p4, p5⟩ := soundKw G ks c kn _ h7
      have e1 : evE C (.mkK cc ini kn ks perm) = fun ev S => (evEs C ks ev S).bind fun l S1 => match permL l perm with | some l' => makeD C cc ini l' S1 | none => .bad := by funext ev S; simp only [evE] <;> rfl
      refine Snd.of c ?_ fun _ => rfl
      rw [e1]
      exact pe_mkKX c G (eq_of_beq h4) (eq_of_beq h3) h1 h2 p2 (by rw [List.length_map]; exact h6.symm) (by simpa using h5) p1 (p3 _) (p4 _) (p5 _)
    · cases h
  | .mth cc f m a es, W, s, X, c, e, h => by
    simp only [chkE] at h
    split at h
    · simp only [Bool.and_eq_true, decide_eq_true_eq] at h
      obtain ⟨⟨⟨⟨⟨⟨⟨rfl, h1⟩, h2⟩, h3⟩, h4⟩, h5⟩, h6⟩, h7⟩ := h
      obtain ⟨h8, h9⟩ := chkSs_chkEs es s _ h5
      have ih := (sound G a c _ h3).1
      rw [h2] at ih
      have hst := chkEs_noStar es s _ h8
      rename_i es' _
      refine Snd.of c ?_ fun _ => rfl
      obtain ⟨nx, np, hx⟩ := mthBase_name h4
      subst hx
      have ht := eval_mth (x := nx) (p := np) (m := m) (env := X.env) hst h6 h7
      have e1 : evE C (.mth cc f m a es) = fun ev S => (evE C a ev S).bind fun x S1 => if mthB S1 cc m x then (evEs C es ev S1).bind fun l S2 => C.fn f (x :: l) [] [] S2 else .bad := by funext ev S; simp only [evE]
      rw [e1]
      cases es' with
      | cons e0 es0 => exact pe_mthX c G (eq_of_beq h1) h9 (by rw [List.length_map]) ih (soundEs G es c _ h8) hst ht
      | nil =>
        cases es with
        | cons _ _ => simp only [chkEs] at h8; cases h8
        | nil =>
          have e2 : (fun ev S => (evE C a ev S).bind fun x S1 => if mthB S1 cc m x then (evEs C [] ev S1).bind fun l S2 => C.fn f (x :: l) [] [] S2 else .bad) = fun ev S => (evE C a ev S).bind fun x S1 => if mthB S1 cc m x then C.fn f [x] [] [] S1 else .bad := by funext ev S; simp only [evEs, Out.bind_ok]
          rw [e2]
          exact pe_mth0X c G (eq_of_beq h1) ih ht
    · cases h
  | .eqO cc f neg a b, W, s, X, c, e, h => by
    simp only [chkE] at h
    split at h
    · simp only [Bool.and_eq_true, Bool.not_eq_true'] at h
      obtain ⟨⟨⟨⟨⟨⟨⟨h1, h2⟩, h3⟩, h4⟩, h5⟩, h6⟩, h7⟩, h8⟩ := h
      rename_i a' o b' _
      obtain ⟨nm, hn⟩ := Option.isSome_iff_exists.mp h3
      have ia := (sound G a c _ h6).1
      have ib := (sound G b c _ h7).1
      rw [h4] at ia
      rw [h5] at ib
      have e1 : evE C (.eqO cc f neg a b) = fun ev S => (evE C a ev S).bind fun x S1 => (evE C b ev S1).bind fun y S2 => if isInsB S2 cc x && othB S2 cc y then (C.fn f [x, y] [] [] S2).bind fun r S3 => .of (blD neg r) S3 else .bad := by funext ev S; simp only [evE]
      have ho : o = cmpNeg neg := by
        revert h1
        cases o <;> cases neg <;> intro h1 <;> first | rfl | (simp at h1; done)
      subst ho
      rw [Snd, show evE C (.eqO cc f neg a b) = eqOF C cc f neg (evE C a) (evE C b) from e1]
      exact ⟨pe_eqAnyX c G neg (eq_of_beq h2) hn h8 ia ib, fun _ => pt_eqAnyX c G neg (eq_of_beq h2) hn h8 ia ib⟩
    · cases h
  | .lenO cc f a, W, s, X, c, e, h => by
    simp only [chkE] at h
    split at h
    · simp only [Bool.and_eq_true, decide_eq_true_eq] at h
      obtain ⟨⟨⟨⟨rfl, h1⟩, h2⟩, h3⟩, h4⟩ := h
      have ia := (sound G a c _ h4).1
      rw [h3] at ia
      have e1 : evE C (.lenO cc f a) = fun ev S => (evE C a ev S).bind fun x S1 => if isInsB S1 cc x then (C.fn f [x] [] [] S1).bind fun r S2 => .of (lenD r) S2 else .bad := by funext ev S; simp only [evE]
      refine Snd.of c ?_ fun _ => rfl
      rw [e1]
      exact pe_lenOX c G (eq_of_beq h2) h1 ia (chk_noStar a s _ h4)
    · cases h
  | .idxO cc f a i, W, s, X, c, e, h => by
    simp only [chkE] at h
    split at h
    · simp only [Bool.and_eq_true] at h
      obtain ⟨⟨⟨⟨⟨h1, h2⟩, h3⟩, h4⟩, h5⟩, h6⟩ := h
      have ia := (sound G a c _ h4).1
      have ib := (sound G i c _ h5).1
      rw [h2] at ia
      rw [h3] at ib
      have e1 : evE C (.idxO cc f a i) = fun ev S => (evE C a ev S).bind fun x S1 => (evE C i ev S1).bind fun y S2 => if isInsB S2 cc x then C.fn f [x, y] [] [] S2 else .bad := by funext ev S; simp only [evE]
      refine Snd.of c ?_ fun _ => rfl
      rw [e1]
      exact pe_idxOX c G (eq_of_beq h1) ia ib (subT_of h6)
    · cases h
  | .wk a, W, s, X, c, e, h => by
    simp only [chkE, Bool.and_eq_true] at h
    obtain ⟨⟨_, h0⟩, h1⟩ := h
    have ia := (sound G a c _ h1).1
    rw [h0] at ia
    have e1 : evE C (.wk a) = fun ev S => (evE C a ev S).bind fun x S1 => .ok x.pl S1 := by funext ev S; simp only [evE]
    refine ⟨by rw [e1]; exact pe_wk ia, fun ht => ?_⟩
    simp only [testB] at ht
    cases ht
  | .tpF a, W, s, X, c, e, h => by
    simp only [chkE] at h
    split at h
    · simp only [Bool.and_eq_true, decide_eq_true_eq] at h
      obtain ⟨⟨rfl, h1⟩, h2⟩ := h
      have e1 : evE C (.tpF a) = fun ev S => (evE C a ev S).bind fun x S1 => .of ((lstS S1 x).map .tpf) S1 := by funext ev S; simp only [evE]
      exact Snd.of c (by rw [e1]; exact pe_tpF c.hK (c.gl h1) (by rw [c.hg]; exact G.bn _ (by decide)) (sound G a c _ h2).1 (chk_noStar a s _ h2)) fun _ => rfl
    · cases h
  | .eqS neg a b, W, s, X, c, e, h => by
    simp only [chkE] at h
    split at h
    · simp only [Bool.and_eq_true, decide_eq_true_eq, Bool.not_eq_true'] at h
      obtain ⟨⟨⟨rfl, h1⟩, h2⟩, h3⟩ := h
      have e1 : evE C (.eqS neg a b) = fun ev S => (evE C a ev S).bind fun x S1 => (evE C b ev S1).bind fun y S2 => .of ((eqDS S2 x y).map fun k => .bl (k != neg)) S2 := by funext ev S; simp only [evE]
      have e2 : truF (evE C (.eqS neg a b)) = fun ev S => (evE C a ev S).bind fun x S1 => (evE C b ev S1).bind fun y S2 => .of ((eqDS S2 x y).map fun k => k != neg) S2 := by
        rw [e1]
        funext ev S
        simp only [truF, Out.bind_assoc]
        congr 1; funext x S1
        congr 1; funext y S2
        cases eqDS S2 x y <;> rfl
      refine ⟨by rw [e1]; exact pe_eqS c.hK c.un neg h3 (sound G a c _ h1).1 (sound G b c _ h2).1, fun _ => ?_⟩
      rw [e2]
      exact pt_eqS c.hK c.un neg h3 (sound G a c _ h1).1 (sound G b c _ h2).1
    · cases h
  | .eqI neg a b, W, s, X, c, e, h => by
    simp only [chkE] at h
    split at h
    · simp only [Bool.and_eq_true, decide_eq_true_eq, Bool.not_eq_true'] at h
      obtain ⟨⟨⟨rfl, h1⟩, h2⟩, h3⟩ := h
      have e1 : evE C (.eqI neg a b) = fun ev S => (evE C a ev S).bind fun x S1 => (evE C b ev S1).bind fun y S2 => .of ((eqDI S2 x y).map fun k => .bl (k != neg)) S2 := by funext ev S; simp only [evE]
      have e2 : truF (evE C (.eqI neg a b)) = fun ev S => (evE C a ev S).bind fun x S1 => (evE C b ev S1).bind fun y S2 => .of ((eqDI S2 x y).map fun k => k != neg) S2 := by
        rw [e1]
        funext ev S
        simp only [truF, Out.bind_assoc]
        congr 1; funext x S1
        congr 1; funext y S2
        cases eqDI S2 x y <;> rfl
      refine ⟨by rw [e1]; exact pe_eqI c.hK c.un neg h3 (sound G a c _ h1).1 (sound G b c _ h2).1, fun _ => ?_⟩
      rw [e2]
      exact pt_eqI c.hK c.un neg h3 (sound G a c _ h1).1 (sound G b c _ h2).1
    · cases h
  | .catS a b, W, s, X, c, e, h => by
    simp only [chkE] at h
    split at h
    · simp only [Bool.and_eq_true, decide_eq_true_eq] at h
      obtain ⟨⟨rfl, h1⟩, h2⟩ := h
      have e1 : evE C (.catS a b) = fun ev S => (evE C a ev S).bind fun x S1 => (evE C b ev S1).bind fun y S2 => .of (catD S2 x y) S2 := by funext ev S; simp only [evE]
      exact Snd.of c (by rw [e1]; exact pe_catS c.hK (sound G a c _ h1).1 (sound G b c _ h2).1) fun _ => rfl
    · cases h
  | .ixo tp a b, W, s, X, c, e, h => by
    simp only [chkE] at h
    split at h
    · simp only [Bool.and_eq_true, decide_eq_true_eq] at h
      obtain ⟨⟨⟨⟨⟨rfl, h0⟩, h1⟩, h2⟩, h3⟩, h4⟩ := h
      have e1 : evE C (.ixo tp a b) = fun ev S => (evE C a ev S).bind fun x S1 => if ixB tp x then (evE C b ev S1).bind fun y S2 => .of (ixoD tp x y) S2 else .bad := by funext ev S; simp only [evE]
      have ia := (sound G a c _ h1).1
      rw [h0] at ia
      rename_i a' _ _ _
      have hba : attributeBase a' "index" X.env (eval a' X.env) = eval a' X.env := by
        cases a' with
        | Call fn args kw p =>
          cases args with
          | nil => simp only [plainBase] at h2; cases h2
          | cons _ _ => cases fn <;> rfl
        | _ => first | rfl | (simp only [plainBase] at h2; cases h2)
      refine Snd.of c ?_ fun _ => rfl
      rw [e1]
      cases tp with
      | true => exact pe_ixT c.hK ia (sound G b c _ h3).1 (chk_noStar b s _ h3) hba h4
      | false => exact pe_ixL c.hK ia (sound G b c _ h3).1 (chk_noStar b s _ h3) hba h4
    · cases h
  | .dgt ks vs a d, W, s, X, c, e, h => by
    simp only [chkE] at h
    split at h
    · simp only [Bool.and_eq_true, decide_eq_true_eq, Bool.not_eq_true'] at h
      obtain ⟨⟨⟨⟨⟨⟨⟨⟨⟨rfl, h1⟩, h2⟩, h3⟩, h4⟩, h5⟩, h6⟩, h7⟩, h8⟩, h9⟩ := h
      have e0 : ∀ vs : List E, evEs C vs = evF (vs.map (evE C)) := fun vs => by
        induction vs with
        | nil => funext ev S; simp only [evEs, List.map_nil, evF]
        | cons x xs ih => funext ev S; simp only [evEs, List.map_cons, evF, ih]
      have e1 : evE C (.dgt ks vs a d) = fun ev S => (evF (vs.map (evE C)) ev S).bind fun l S1 => (evE C a ev S1).bind fun x S2 => (evE C d ev S2).bind fun y S3 => .of (dgtD ks l x y) S3 := by
        funext ev S; simp only [evE, e0]
      obtain ⟨p1, p2, p3, p4⟩ := soundPs G vs c ks _ _ h1 h2 h3
      have id := (sound G d c _ h8).1
      rw [h7] at id
      refine Snd.of c ?_ fun _ => rfl
      rw [e1]
      refine pe_dgtX c.un (p1 _) p2 p3 (fun z => ?_) (by rw [← p4]; exact h4) p4 (by simpa using h3) (sound G a c _ h6).1 id (chk_noStar a s _ h6) (chk_noStar d s _ h8) h9
      rw [z] at p4
      cases ks with
      | nil => cases h5
      | cons _ _ => simp at p4
    · cases h
  | .dicE ks vs, W, s, X, c, e, h => by
    simp only [chkE] at h
    split at h
    · simp only [Bool.and_eq_true, decide_eq_true_eq] at h
      obtain ⟨⟨⟨h1, h2⟩, h3⟩, h4⟩ := h
      have e0 : ∀ vs : List E, evEs C vs = evF (vs.map (evE C)) := fun vs => by
        induction vs with
        | nil => funext ev S; simp only [evEs, List.map_nil, evF]
        | cons x xs ih => funext ev S; simp only [evEs, List.map_cons, evF, ih]
      have e1 : evE C (.dicE ks vs) = fun ev S => (evF (vs.map (evE C)) ev S).bind fun _ S1 => .ok .dic S1 := by
        funext ev S; simp only [evE, e0]
      obtain ⟨p1, p2, p3, p4⟩ := soundPs G vs c ks _ _ h1 h2 h3
      refine Snd.of c ?_ fun _ => rfl
      rw [e1]
      exact pe_dicX (p1 _) p2 p3 (by rw [← p4]; exact h4) p4 (by simpa using h3)
    · cases h
  | .dcE ks vs, W, s, X, c, e, h => by
    simp only [chkE] at h
    split at h
    · simp only [Bool.and_eq_true, decide_eq_true_eq] at h
      obtain ⟨⟨⟨h1, h2⟩, h3⟩, h4⟩ := h
      have e0 : ∀ vs : List E, evEs C vs = evF (vs.map (evE C)) := fun vs => by
        induction vs with
        | nil => funext ev S; simp only [evEs, List.map_nil, evF]
        | cons x xs ih => funext ev S; simp only [evEs, List.map_cons, evF, ih]
      have e1 : evE C (.dcE ks vs) = fun ev S => (evF (vs.map (evE C)) ev S).bind fun l S1 => .ok (.cel S1.length) (S1 ++ [.dct (dkM [] ((ks.zip l).map fun p => (Sum.inr p.1, p.2)))]) := by
        funext ev S; simp only [evE, e0]
      obtain ⟨p1, p2, p3, p4⟩ := soundPs G vs c ks _ _ h1 h2 h3
      refine Snd.of c ?_ fun _ => rfl
      rw [e1]
      exact pe_dcX (p1 _) p2 p3 (by rw [← p4]; exact h4) p4 (by simpa using h3)
    · cases h
  | .dget a k, W, s, X, c, e, h => by
    simp only [chkE] at h
    split at h
    · simp only [Bool.and_eq_true] at h
      obtain ⟨⟨h1, h2⟩, h3⟩ := h
      have e1 : evE C (.dget a k) = fun ev S => (evE C a ev S).bind fun x S1 => (evE C k ev S1).bind fun y S2 => .of ((dctG S2 x y).bind id) S2 := by funext ev S; simp only [evE]
      refine Snd.of c ?_ fun _ => rfl
      rw [e1]
      exact pe_dgetX c.un (sound G a c _ h1).1 (sound G k c _ h2).1 (noSl_of h3)
    · cases h
  | .dget2 a k d, W, s, X, c, e, h => by
    simp only [chkE] at h
    split at h
    · simp only [Bool.and_eq_true, decide_eq_true_eq] at h
      obtain ⟨⟨⟨⟨⟨⟨rfl, h1⟩, h2⟩, h3⟩, h4⟩, h5⟩, h6⟩ := h
      have e1 : evE C (.dget2 a k d) = fun ev S => (evE C a ev S).bind fun x S1 => if (dctS S1 x).isSome then (evE C k ev S1).bind fun y S2 => (evE C d ev S2).bind fun z S3 => .of ((dctG S3 x y).map fun o => o.getD z) S3 else .bad := by funext ev S; simp only [evE]
      rename_i a' ap k' d' cp
      have hba : attributeBase a' "get" X.env (eval a' X.env) = eval a' X.env := by
        cases a' with
        | Call fn args kw p =>
          cases args with
          | nil => simp only [plainBase] at h2; cases h2
          | cons _ _ => cases fn <;> rfl
        | _ => first | rfl | (simp only [plainBase] at h2; cases h2)
      have tr : backTo cp (starEach [k', d'] X.env) = [(false, eval k' X.env), (false, eval d' X.env)] := by rw [star1 (chk_noStar k s _ h3), star1s (chk_noStar d s _ h5)]; rfl
      have id := (sound G d c _ h5).1
      rw [h4] at id
      refine Snd.of c ?_ fun _ => rfl
      rw [e1]
      exact pe_dget2X c.un (sound G a c _ h1).1 (sound G k c _ h3).1 id ⟨hba, by rw [tr]; rfl, h6, tr⟩
    · cases h
  | .dIn neg k a, W, s, X, c, e, h => by
    simp only [chkE] at h
    split at h
    · simp only [Bool.and_eq_true, decide_eq_true_eq, Bool.not_eq_true'] at h
      obtain ⟨⟨⟨rfl, h1⟩, h2⟩, h3⟩ := h
      have e1 : evE C (.dIn neg k a) = fun ev S => (evE C k ev S).bind fun y S1 => (evE C a ev S1).bind fun x S2 => .of ((dctG S2 x y).map fun o => .bl (o.isSome != neg)) S2 := by funext ev S; simp only [evE]
      have e2 : evE C (.dIn neg k a) = dInF neg (evE C k) (evE C a) := e1
      refine ⟨by rw [e2]; exact pe_dInX c.un h3 (sound G k c _ h1).1 (sound G a c _ h2).1, fun _ => ?_⟩
      rw [e2]
      exact pt_dInX c.un h3 (sound G k c _ h1).1 (sound G a c _ h2).1
    · cases h
  | .callT f b, W, s, X, c, e, h => by
    simp only [chkE] at h
    split at h
    · simp only [Bool.and_eq_true, notDbg, Bool.not_eq_true'] at h
      obtain ⟨⟨⟨⟨⟨⟨⟨h1, h2⟩, h3⟩, h4⟩, h5⟩, h6⟩, h7⟩, h8⟩ := h
      have e1 : evE C (.callT f b) = fun ev S => C.fnT f (fun S1 => evE C b (capE ev) S1) S := by funext ev S; simp only [evE]
      refine Snd.of c ?_ fun _ => rfl
      rw [e1]
      refine pe_callTX c G (eq_of_beq h1) h2 h3 h4 (lamS_to c h5) (noPar_df h6) (noPar_bind h6) fun W2 X2 c2 => ?_
      have := (sound G b c2 _ h8).1
      rw [h7] at this
      exact this
    · cases h
  | .thk i, W, s, X, c, e, h => by
    simp only [chkE] at h
    split at h
    · simp only [Bool.and_eq_true] at h
      obtain ⟨⟨h1, h2⟩, h3⟩ := h
      obtain rfl := eq_of_beq h1
      have e1 : evE C (.thk 0) = fun ev S => match ev[0]? with | some Sl.th => C.th S | _ => Out.bad := by
        funext ev S
        first
        | (simp only [evE]; done)
        | (simp only [evE]; cases ev[0]? with
            | none => rfl
            | some s => cases s <;> rfl)
      refine Snd.of c ?_ fun _ => rfl
      rw [e1]
      exact pe_thkX c h2 (eq_of_beq h3)
    · cases h
  | .lc el tg it ifs vs, W, s, X, c, e, h => by
    simp only [chkE] at h
    split at h
    · simp only [Bool.and_eq_true, List.all_eq_true] at h
      obtain ⟨⟨⟨⟨⟨⟨⟨h1, h2⟩, h3⟩, h4⟩, h5⟩, h6⟩, h7⟩, h8⟩ := h
      rename_i el' tg' it' ifs' scope _
      have hk : scope.kind = .function := by
        split at h5
        · assumption
        · cases h5
      have e1 : evE C (.lc el tg it ifs vs) = lcF tg vs (evI C it) (evTests C ifs) (evE C el) := by funext ev S; simp only [evE, lcF, lcB] <;> rfl
      have ov : (ownOf s.N vs).map (·.2) = vs := by unfold ownOf; simp [List.map_map, Function.comp_def]
      have hv : ∀ j ∈ slotsT tg, j ∈ vs := fun j hj => by simpa using h4 j hj
      refine Snd.of c ?_ fun _ => rfl
      rw [e1]
      refine PE.ofF (PE.imp (pe_lc (own := ownOf s.N vs) (g := gX t tg) (tt := rdT t W0 (evTests C ifs)) (te := rdE t W0 true (evE C el)) c.calm c.ndX (soundI G it c _ _ h1) (by rw [c.hN]; exact blkOk_of c h2) ?_ ?_ ?_ ?_) fun σ H Q h => by rw [ov]; exact lc_rd hv h)
      · intro sh H A cl fp
        exact (soundTg (c.blk hk sh H A cl fp) tg _ h3).1
      · intro sh H A cl fp
        exact soundOne G ifs (c.blk hk sh H A cl fp) _ h6
      · intro sh H A cl fp
        have := (sound G el (c.blk hk sh H A cl fp) _ h8).1
        rw [h7] at this
        exact this
      · intro x
        exact folded_ok it s _ _ h1 x
    · cases h
theorem soundF (G : Glob t tb T C k) : ∀ (x : E) {W : WX} {s : Sc} {X : Cx} (c : Ctx t tb T C k W s X) (e : Expr), isFresh x = true → chkE tb x s e = true → PE X e (rdF t W (evE C x))
  | .lstE es, W, s, X, c, e, _, h => by
    simp only [chkE] at h
    split at h
    · obtain ⟨h1, h2⟩ := chkSs_chkEs es s _ h
      have e1 : evE C (.lstE es) = fun ev S => (evEs C es ev S).bind fun l S1 => if lineB l.length then .ok (.lst l) S1 else .bad := by funext ev S; simp only [evE]
      rw [e1]; exact pf_lstX h2 (soundEs G es c _ h1)
    · cases h
  | .bcl b es, W, s, X, c, e, hf, h => by
    have hb : b = .list := by cases b <;> first | rfl | (simp [isFresh] at hf; done)
    subst hb
    simp only [chkE] at h
    split at h
    · simp only [Bool.and_eq_true, decide_eq_true_eq] at h
      obtain ⟨⟨rfl, h1⟩, h2⟩ := h
      have e1 : evE C (.bcl .list es) = fun ev S => (evEs C es ev S).bind fun l S1 => .of (biD S1 .list l) S1 := by funext ev S; simp only [evE]
      have ns := chkEs_noStar es s _ h2
      rw [e1]
      exact pf_listX c.hK (c.gl h1) (by rw [c.hg]; exact G.bn _ (by decide)) (soundEs G es c _ h2) (star1 (ns _ List.mem_cons_self)) (starN fun e he => ns e (List.mem_cons_of_mem _ he))
    · cases h
  | .lc el tg it ifs vs, W, s, X, c, e, _, h => by
    simp only [chkE] at h
    split at h
    · simp only [Bool.and_eq_true, List.all_eq_true] at h
      obtain ⟨⟨⟨⟨⟨⟨⟨h1, h2⟩, h3⟩, h4⟩, h5⟩, h6⟩, h7⟩, h8⟩ := h
      rename_i el' tg' it' ifs' scope _
      have hk : scope.kind = .function := by
        split at h5
        · assumption
        · cases h5
      have e1 : evE C (.lc el tg it ifs vs) = lcF tg vs (evI C it) (evTests C ifs) (evE C el) := by funext ev S; simp only [evE, lcF, lcB] <;> rfl
      have ov : (ownOf s.N vs).map (·.2) = vs := by unfold ownOf; simp [List.map_map, Function.comp_def]
      have hv : ∀ j ∈ slotsT tg, j ∈ vs := fun j hj => by simpa using h4 j hj
      rw [e1]
      refine (PE.imp (pe_lc (own := ownOf s.N vs) (g := gX t tg) (tt := rdT t W0 (evTests C ifs)) (te := rdE t W0 true (evE C el)) c.calm c.ndX (soundI G it c _ _ h1) (by rw [c.hN]; exact blkOk_of c h2) ?_ ?_ ?_ ?_) fun σ H Q h => by rw [ov]; exact lc_rd hv h)
      · intro sh H A cl fp
        exact (soundTg (c.blk hk sh H A cl fp) tg _ h3).1
      · intro sh H A cl fp
        exact soundOne G ifs (c.blk hk sh H A cl fp) _ h6
      · intro sh H A cl fp
        have := (sound G el (c.blk hk sh H A cl fp) _ h8).1
        rw [h7] at this
        exact this
      · intro x
        exact folded_ok it s _ _ h1 x
    · cases h
  | .var _, W, s, X, c, e, hf, _ => by simp only [isFresh] at hf; cases hf
  | .pk _, W, s, X, c, e, hf, _ => by simp only [isFresh] at hf; cases hf
  | .con _, W, s, X, c, e, hf, _ => by simp only [isFresh] at hf; cases hf
  | .glo _ _, W, s, X, c, e, hf, _ => by simp only [isFresh] at hf; cases hf
  | .bin _ _ _, W, s, X, c, e, hf, _ => by simp only [isFresh] at hf; cases hf
  | .neg _, W, s, X, c, e, hf, _ => by simp only [isFresh] at hf; cases hf
  | .nt _, W, s, X, c, e, hf, _ => by simp only [isFresh] at hf; cases hf
  | .cmp _ _ _, W, s, X, c, e, hf, _ => by simp only [isFresh] at hf; cases hf
  | .cmp2 _ _ _ _ _, W, s, X, c, e, hf, _ => by simp only [isFresh] at hf; cases hf
  | .isN _, W, s, X, c, e, hf, _ => by simp only [isFresh] at hf; cases hf
  | .isNN _, W, s, X, c, e, hf, _ => by simp only [isFresh] at hf; cases hf
  | .andE _ _, W, s, X, c, e, hf, _ => by simp only [isFresh] at hf; cases hf
  | .orE _ _, W, s, X, c, e, hf, _ => by simp only [isFresh] at hf; cases hf
  | .ife _ _ _, W, s, X, c, e, hf, _ => by simp only [isFresh] at hf; cases hf
  | .tupE _, W, s, X, c, e, hf, _ => by simp only [isFresh] at hf; cases hf
  | .celE _, W, s, X, c, e, hf, _ => by simp only [isFresh] at hf; cases hf
  | .idx _ _, W, s, X, c, e, hf, _ => by simp only [isFresh] at hf; cases hf
  | .slc _ _ _, W, s, X, c, e, hf, _ => by simp only [isFresh] at hf; cases hf
  | .att _ _, W, s, X, c, e, hf, _ => by simp only [isFresh] at hf; cases hf
  | .isI _ _, W, s, X, c, e, hf, _ => by simp only [isFresh] at hf; cases hf
  | .call _ _ _ _, W, s, X, c, e, hf, _ => by simp only [isFresh] at hf; cases hf
  | .mk _ _ _, W, s, X, c, e, hf, _ => by simp only [isFresh] at hf; cases hf
  | .callK _ _ _ _, W, s, X, c, e, hf, _ => by simp only [isFresh] at hf; cases hf
  | .mkK _ _ _ _ _, W, s, X, c, e, hf, _ => by simp only [isFresh] at hf; cases hf
  | .mth _ _ _ _ _, W, s, X, c, e, hf, _ => by simp only [isFresh] at hf; cases hf
  | .eqO _ _ _ _ _, W, s, X, c, e, hf, _ => by simp only [isFresh] at hf; cases hf
  | .lenO _ _ _, W, s, X, c, e, hf, _ => by simp only [isFresh] at hf; cases hf
  | .idxO _ _ _ _, W, s, X, c, e, hf, _ => by simp only [isFresh] at hf; cases hf
  | .dgt _ _ _ _, W, s, X, c, e, hf, _ => by simp only [isFresh] at hf; cases hf
  | .dicE _ _, W, s, X, c, e, hf, _ => by simp only [isFresh] at hf; cases hf
  | .callT _ _, W, s, X, c, e, hf, _ => by simp only [isFresh] at hf; cases hf
  | .dcE _ _, W, s, X, c, e, hf, _ => by simp only [isFresh] at hf; cases hf
  | .dget _ _, W, s, X, c, e, hf, _ => by simp only [isFresh] at hf; cases hf
  | .dget2 _ _ _, W, s, X, c, e, hf, _ => by simp only [isFresh] at hf; cases hf
  | .dIn _ _ _, W, s, X, c, e, hf, _ => by simp only [isFresh] at hf; cases hf
  | .thk _, W, s, X, c, e, hf, _ => by simp only [isFresh] at hf; cases hf
  | .wk _, W, s, X, c, e, hf, _ => by simp only [isFresh] at hf; cases hf
  | .tpF _, W, s, X, c, e, hf, _ => by simp only [isFresh] at hf; cases hf
  | .eqS _ _ _, W, s, X, c, e, hf, _ => by simp only [isFresh] at hf; cases hf
  | .eqI _ _ _, W, s, X, c, e, hf, _ => by simp only [isFresh] at hf; cases hf
  | .catS _ _, W, s, X, c, e, hf, _ => by simp only [isFresh] at hf; cases hf
  | .ixo _ _ _, W, s, X, c, e, hf, _ => by simp only [isFresh] at hf; cases hf
theorem soundKw (G : Glob t tb T C k) : ∀ (ks : List E) {W : WX} {s : Sc} {X : Cx} (c : Ctx t tb T C k W s X) (kn : List Str) (kws : List Keyword), chkKw tb kn ks s kws = true → PK X kws (rdA t W (ks.map strong) (evEs C ks)) ∧ (ks.map strong).all id = true ∧
    (∀ pos, (backToKw pos (keywordEach kws X.env)).all (·.1.isSome) = true) ∧ (∀ pos, (backToKw pos (keywordEach kws X.env)).filterMap (·.1) = kn) ∧ ∀ pos, ((backTo pos (starEach [] X.env)).any (·.1) || (backToKw pos (keywordEach kws X.env)).any (·.1.isNone)) = false
  | [], W, s, X, c, kn, kws, h => by
    cases kn with
    | cons _ _ => simp only [chkKw] at h; cases h
    | nil =>
      simp only [chkKw, Bool.and_eq_true, List.isEmpty_iff] at h
      obtain ⟨_, rfl⟩ := h
      have e1 : evEs C [] = fun _ S => .ok [] S := by funext ev S; simp only [evEs]
      exact ⟨by rw [e1]; exact pk_nilX, rfl, fun _ => rfl, fun _ => rfl, fun _ => rfl⟩
  | x :: ks, W, s, X, c, kn, kws, h => by
    cases kn with
    | nil => simp only [chkKw, Bool.and_eq_true, List.isEmpty_iff] at h; cases h.1
    | cons n kn =>
      cases kws with
      | nil => simp only [chkKw] at h; cases h
      | cons kw kws =>
        obtain ⟨ka, kv, kp⟩ := kw
        simp only [chkKw, Bool.and_eq_true] at h
        obtain ⟨⟨⟨h1, h2⟩, h3⟩, h4⟩ := h
        have ha : ka = some n := eq_of_beq h1
        subst ha
        obtain ⟨p1, p2, p3, p4, p5⟩ := soundKw G ks c kn kws h4
        have e1 : evEs C (x :: ks) = fun ev S => (evE C x ev S).bind fun y S1 => (evEs C ks ev S1).bind fun l S2 => .ok (y :: l) S2 := by funext ev S; simp only [evEs]
        refine ⟨by rw [e1]; exact pk_consX (sound G x c _ h3).1 p1, by simp [h2, p2], fun pos => ?_, fun pos => ?_, fun pos => ?_⟩
        · have := p3 pos
          simp only [backToKw, keywordEach, List.map_cons, List.all_cons] at this ⊢
          rw [this]; rfl
        · have := p4 pos
          simp only [backToKw, keywordEach, List.map_cons, List.filterMap_cons] at this ⊢
          rw [this]
        · have := p5 pos
          simp only [backToKw, keywordEach, List.map_cons, List.any_cons, Option.isNone_some, Bool.false_or] at this ⊢
          exact this
theorem soundPs (G : Glob t tb T C k) : ∀ (xs : List E) {W : WX} {s : Sc} {X : Cx} (c : Ctx t tb T C k W s X) (ks : List Str) (keys : List (Option Expr)) (es : List Expr), chkKs ks keys = true → chkSs tb xs s es = true → ks.length = xs.length →
    (∀ pos, PPs X pos keys es (List.zipWith (fun k f => (tC (.str k), rdE t W true f)) ks (xs.map (evE C)))) ∧ keys.all (·.isSome) = true ∧ keys.length = es.length ∧ ks.length = keys.length
  | [], W, s, X, c, ks, keys, es, h1, h2, h3 => by
    cases ks with
    | cons _ _ => simp at h3
    | nil =>
      simp only [chkKs, List.isEmpty_iff] at h1
      simp only [chkSs, List.isEmpty_iff] at h2
      subst h1; subst h2
      exact ⟨fun _ => pps_nil, rfl, rfl, rfl⟩
  | x :: xs, W, s, X, c, ks, keys, es, h1, h2, h3 => by
    cases ks with
    | nil => simp at h3
    | cons k0 ks =>
      cases es with
      | nil => simp only [chkSs] at h2; cases h2
      | cons e es =>
        simp only [chkKs] at h1
        split at h1
        · simp only [Bool.and_eq_true, decide_eq_true_eq] at h1
          obtain ⟨rfl, h1⟩ := h1
          simp only [chkSs, Bool.and_eq_true] at h2
          obtain ⟨⟨s1, s2⟩, s3⟩ := h2
          obtain ⟨p1, p2, p3, p4⟩ := soundPs G xs c ks _ es h1 s3 (by simpa using h3)
          have ix := (sound G x c _ s2).1
          rw [s1] at ix
          exact ⟨fun pos => pps_cons pe_str ix (p1 pos), by simp [p2], by simp [p3], by simp [p4]⟩
        · cases h1
theorem soundEs (G : Glob t tb T C k) : ∀ (xs : List E) {W : WX} {s : Sc} {X : Cx} (c : Ctx t tb T C k W s X) (es : List Expr), chkEs tb xs s es = true → PA X es (rdA t W (xs.map strong) (evEs C xs))
  | [], W, s, X, c, es, h => by
    simp only [chkEs, List.isEmpty_iff] at h
    subst h
    have e1 : evEs C [] = fun _ S => .ok [] S := by funext ev S; simp only [evEs]
    rw [e1]; exact pa_nilX
  | x :: xs, W, s, X, c, es, h => by
    cases es with
    | nil => simp only [chkEs] at h; cases h
    | cons e es =>
      simp only [chkEs, Bool.and_eq_true] at h
      have e1 : evEs C (x :: xs) = fun ev S => (evE C x ev S).bind fun y S1 => (evEs C xs ev S1).bind fun l S2 => .ok (y :: l) S2 := by funext ev S; simp only [evEs]
      rw [e1]
      exact pa_consX (sound G x c _ h.1).1 (soundEs G xs c _ h.2) (star1 (chk_noStar x s _ h.1))
theorem soundO (G : Glob t tb T C k) : ∀ (o : Option E) {W : WX} {s : Sc} {X : Cx} (c : Ctx t tb T C k W s X) (e : Option Expr), chkO tb o s e = true → PO X e (rd t W RepO (evO C o))
  | none, W, s, X, c, e, h => by
    simp only [chkO, Option.isNone_iff_eq_none] at h
    subst h
    have e1 : evO C none = fun _ S => .ok none S := by funext ev S; simp only [evO]
    rw [e1]; exact po_noneX
  | some x, W, s, X, c, e, h => by
    cases e with
    | none => simp only [chkO] at h; cases h
    | some e =>
      simp only [chkO] at h
      have e1 : evO C (some x) = fun ev S => (evE C x ev S).bind fun y S1 => .of (intO y) S1 := by funext ev S; simp only [evO]
      rw [e1]; exact po_someX (sound G x c _ h).1
theorem soundAnd (G : Glob t tb T C k) : ∀ (xs : List E) {W : WX} {s : Sc} {X : Cx} (c : Ctx t tb T C k W s X) (es : List Expr), chkSs tb xs s es = true → ∀ {a : Expr} {fa : Den D} {pos : Pos}, PE X a (rdE t W true fa) →
    PE X (.BoolOp .And (a :: es) pos) (rdE t W true fun ev S => (fa ev S).bind fun x S1 => evAnd C x xs ev S1) ∧ (PT X a (rdT t W (truF fa)) → testBs xs es = true → PW X (.BoolOp .And (a :: es) pos) (rdT t W (truF fun ev S => (fa ev S).bind fun x S1 => evAnd C x xs ev S1)))
  | [], W, s, X, c, es, h, a, fa, pos, ha => by
    simp only [chkSs, List.isEmpty_iff] at h
    subst h
    have e1 : (fun ev S => (fa ev S).bind fun x S1 => evAnd C x [] ev S1) = fa := by
      funext ev S
      simp only [evAnd]
      cases fa ev S <;> rfl
    rw [e1]
    exact ⟨pe_one ha, fun ht _ => pw_and1 ht⟩
  | x :: xs, W, s, X, c, es, h, a, fa, pos, ha => by
    cases es with
    | nil => simp only [chkSs] at h; cases h
    | cons e es =>
      simp only [chkSs, Bool.and_eq_true] at h
      obtain ⟨⟨h0, h1⟩, h2⟩ := h
      have ih := sound G x c _ h1
      rw [Snd, h0] at ih
      have r := soundAnd G xs c es h2 (pos := pos) ih.1
      have e1 : (fun ev S => (fa ev S).bind fun x1 S1 => evAnd C x1 (x :: xs) ev S1) = andF fa (fun ev S => (evE C x ev S).bind fun y S1 => evAnd C y xs ev S1) := by
        funext ev S; simp only [evAnd, andF]
      rw [e1]
      refine ⟨pe_andX c.hK ha r.1, fun ht hts => ?_⟩
      simp only [testBs, Bool.and_eq_true] at hts
      rw [truF_and]
      exact pw_andX ht (r.2 (ih.2 hts.1) hts.2)
theorem soundOr (G : Glob t tb T C k) : ∀ (xs : List E) {W : WX} {s : Sc} {X : Cx} (c : Ctx t tb T C k W s X) (es : List Expr), chkSs tb xs s es = true → ∀ {a : Expr} {fa : Den D} {pos : Pos}, PE X a (rdE t W true fa) →
    PE X (.BoolOp .Or (a :: es) pos) (rdE t W true fun ev S => (fa ev S).bind fun x S1 => evOr C x xs ev S1) ∧ (PT X a (rdT t W (truF fa)) → testBs xs es = true → PW X (.BoolOp .Or (a :: es) pos) (rdT t W (truF fun ev S => (fa ev S).bind fun x S1 => evOr C x xs ev S1)))
  | [], W, s, X, c, es, h, a, fa, pos, ha => by
    simp only [chkSs, List.isEmpty_iff] at h
    subst h
    have e1 : (fun ev S => (fa ev S).bind fun x S1 => evOr C x [] ev S1) = fa := by
      funext ev S
      simp only [evOr]
      cases fa ev S <;> rfl
    rw [e1]
    exact ⟨pe_one ha, fun ht _ => pw_or1 ht⟩
  | x :: xs, W, s, X, c, es, h, a, fa, pos, ha => by
    cases es with
    | nil => simp only [chkSs] at h; cases h
    | cons e es =>
      simp only [chkSs, Bool.and_eq_true] at h
      obtain ⟨⟨h0, h1⟩, h2⟩ := h
      have ih := sound G x c _ h1
      rw [Snd, h0] at ih
      have r := soundOr G xs c es h2 (pos := pos) ih.1
      have e1 : (fun ev S => (fa ev S).bind fun x1 S1 => evOr C x1 (x :: xs) ev S1) = orF fa (fun ev S => (evE C x ev S).bind fun y S1 => evOr C y xs ev S1) := by
        funext ev S; simp only [evOr, orF]
      rw [e1]
      refine ⟨pe_orX c.hK ha r.1, fun ht hts => ?_⟩
      simp only [testBs, Bool.and_eq_true] at hts
      rw [truF_or]
      exact pw_orX ht (r.2 (ih.2 hts.1) hts.2)
theorem soundOne (G : Glob t tb T C k) : ∀ (xs : List E) {W : WX} {s : Sc} {X : Cx} (c : Ctx t tb T C k W s X) (es : List Expr), chkOne tb xs s es = true → PTs X es (rdT t W (evTests C xs))
  | [], W, s, X, c, es, h => by
    simp only [chkOne, List.isEmpty_iff] at h
    subst h
    refine PTs.imp pts_nil fun σ H Q h => ?_
    obtain ⟨ev, S, g, sl, w, h⟩ := h
    simp only [evTests] at h
    exact h _ _ _ (Frm.refl _ _) w rfl
  | x :: xs, W, s, X, c, es, h => by
    simp only [chkOne, Bool.and_eq_true, List.isEmpty_iff] at h
    obtain ⟨rfl, h⟩ := h
    split at h
    · simp only [Bool.and_eq_true] at h
      rw [evTests_one]
      exact pts_one ((sound G x c _ h.1).2 h.2)
    · cases h
theorem soundI (G : Glob t tb T C k) : ∀ (it : I) {W : WX} {s : Sc} {X : Cx} (c : Ctx t tb T C k W s X) (tg e : Expr), chkI tb it s tg e = true → PI X tg e (rdI t W (evI C it))
  | .seq x, W, s, X, c, tg, e, h => by
    simp only [chkI, Bool.and_eq_true] at h
    have e1 : evI C (.seq x) = fun ev S => (evE C x ev S).bind fun y S1 => .of (seqD S1 y) S1 := by funext ev S; simp only [evI]
    rw [e1]
    have ih := (sound G x c _ h.2).1
    rw [h.1] at ih
    exact pi_seqX c.hK ih
  | .rng xs, W, s, X, c, tg, e, h => by
    simp only [chkI] at h
    split at h
    · simp only [Bool.and_eq_true, decide_eq_true_eq, Bool.or_eq_true] at h
      obtain ⟨⟨⟨rfl, h1⟩, h2⟩, h3⟩ := h
      rename_i es _
      have e1 : evI C (.rng xs) = fun ev S => (evEs C xs ev S).bind fun l S1 => .of ((rngD l).map fun q => (q, none)) S1 := by funext ev S; simp only [evI]
      rw [e1]
      have hm : X.mg "range" = none := by rw [c.hg]; exact G.bn _ (by decide)
      have ih := soundEs G xs c _ h2
      have ns := chkEs_noStar xs s _ h2
      have len : ∀ (xs : List E) (es : List Expr), chkEs tb xs s es = true → xs.length = es.length := by
        intro xs
        induction xs with
        | nil => intro es h; simp only [chkEs, List.isEmpty_iff] at h; subst h; rfl
        | cons x xs ih =>
          intro es h
          cases es with
          | nil => simp only [chkEs] at h; cases h
          | cons e es => simp only [chkEs, Bool.and_eq_true] at h; rw [List.length_cons, List.length_cons, ih es h.2]
      have hl := len xs es h2
      rcases h3 with h3 | h3
      · match es, h3, ih, ns, hl with
        | [e1], _, ih, ns, hl => exact pi_rng1X (c.gl h1) hm (by rw [List.length_map, hl]; rfl) ih (star1s (ns _ List.mem_cons_self))
      · match es, h3, ih, ns, hl with
        | [e1, e2], _, ih, ns, hl =>
          have s2 := star1s (env := X.env) (ns e2 (by simp))
          exact pi_rng2X (c.gl h1) hm (by rw [List.length_map, hl]; rfl) ih (by rw [star1 (ns e1 (by simp)), s2]) s2
    · cases h
  | .enm x, W, s, X, c, tg, e, h => by
    simp only [chkI] at h
    split at h
    · simp only [Bool.and_eq_true, decide_eq_true_eq] at h
      obtain ⟨⟨⟨⟨rfl, h1⟩, h2⟩, h3⟩, h4⟩ := h
      have e1 : evI C (.enm x) = fun ev S => (evE C x ev S).bind fun y S1 => .of (enmD S1 y) S1 := by funext ev S; simp only [evI]
      rw [e1]
      have ih := (sound G x c _ h3).1
      rw [h2] at ih
      cases tg with
      | Tuple elts kk tp => exact pi_enmX c.hK (c.gl h1) (by rw [c.hg]; exact G.bn _ (by decide)) ih (star1s (chk_noStar x s _ h3))
      | _ => simp only [isTupX] at h4; cases h4
    · cases h
  | .zip a b, W, s, X, c, tg, e, h => by
    simp only [chkI] at h
    split at h
    · simp only [Bool.and_eq_true, decide_eq_true_eq] at h
      obtain ⟨⟨⟨⟨⟨⟨rfl, h1⟩, h2⟩, h3⟩, h4⟩, h5⟩, h6⟩ := h
      have e1 : evI C (.zip a b) = fun ev S => (evE C a ev S).bind fun x S1 => (evE C b ev S1).bind fun y S2 => .of (zipD x y) S2 := by funext ev S; simp only [evI]
      rw [e1]
      have ia := (sound G a c _ h4).1
      have ib := (sound G b c _ h5).1
      rw [h2] at ia
      rw [h3] at ib
      have sb := chk_noStar b s _ h5
      cases tg with
      | Tuple elts kk tp => exact pi_zipX c.hK (c.gl h1) (by rw [c.hg]; exact G.bn _ (by decide)) ia ib (star1 (chk_noStar a s _ h4)) (star1s sb) (starN fun e he => by
          have : e = _ := List.mem_singleton.mp he
          subst this; exact sb)
      | _ => simp only [isTupX] at h6; cases h6
    · cases h
end
end
end Mp

set_option Elab.async false
set_option linter.all false
set_option maxRecDepth 100000
set_option autoImplicit false
set_option maxHeartbeats 2000000
namespace Mp
open PySem PySem.Spec L2
/-- a state within a function that began at g0, H0 -/
structure SB (t : Tp) (g0 : Gh) (H0 : Hp) (ev : Ev) (S : Store) (g : Gh) (σ : St) (H : Hp) : Prop where
  sl : Slots t ev g σ H
  w : Wld t S g H
  fr : Frm g0 H0 g H
  nw : ∀ (i : Nat) (l : List D) (p : Addr), ev[i]? = some (.ow l) → σ[i]? = some (some (.ref p)) → H0 p = none
def SA (t : Tp) (W : WX) (g0 : Gh) (H0 : Hp) (g : Gh) (o : Out Fl) (D : Ends) : Prop := match o with
  | .ok (.nx ev') S' => ∀ σ' H' g', SB t g0 H0 ev' S' g' σ' H' → Le g g' → D.nx σ' H'
  | .ok (.bk ev') S' => ∀ σ' H' g', SB t g0 H0 ev' S' g' σ' H' → Le g g' → D.bk σ' H'
  | .ok (.ct ev') S' => ∀ σ' H' g', SB t g0 H0 ev' S' g' σ' H' → Le g g' → D.ct σ' H'
  | .ok (.rt d) S' => ∀ v H' g', Frm g0 H0 g' H' → Wld t S' g' H' → Rep t g' d v → D.rt v H'
  | .exc e S' => ∀ cls d σ' H' g', Frm g0 H0 g' H' → Wld t S' g' H' → ExR t g' H' e cls d → W cls d σ' H'
  | .bad => False
def rdS (t : Tp) (W : WX) (f : Den Fl) : TS := fun D σ H => ∃ g0 H0 ev S g, SB t g0 H0 ev S g σ H ∧ SA t W g0 H0 g (f ev S) D
section
variable {t : Tp} {W : WX} {g0 g g1 : Gh} {H0 H H1 : Hp} {ev : Ev} {S S1 : Store} {σ : St} {D : Ends}
theorem SB.step (b : SB t g0 H0 ev S g σ H) (f : Frm g H g1 H1) (w : Wld t S1 g1 H1) : SB t g0 H0 ev S1 g1 σ H1 := ⟨b.sl.frm f, w, b.fr.trans f, b.nw⟩
theorem SA.shift {o : Out Fl} (l : Le g g1) (h : SA t W g0 H0 g o D) : SA t W g0 H0 g1 o D := by
  cases o with
  | ok f S =>
    cases f with
    | nx ev => exact fun σ' H' g' b l' => h σ' H' g' b (l.trans l')
    | bk ev => exact fun σ' H' g' b l' => h σ' H' g' b (l.trans l')
    | ct ev => exact fun σ' H' g' b l' => h σ' H' g' b (l.trans l')
    | rt d => exact h
  | exc e S => exact h
  | bad => exact h
theorem SA.bindE {γ δ : Type} {R1 : Hp → Gh → γ → δ → Prop} {p : Out γ} {k : γ → Store → Out Fl} (b : SB t g0 H0 ev S g σ H) (h : SA t W g0 H0 g (p.bind k) D) :
    Aft t (fun c d H' => W c d σ H') R1 g H p (fun v H1 => ∃ a S1 g1, SB t g0 H0 ev S1 g1 σ H1 ∧ Frm g H g1 H1 ∧ R1 H1 g1 a v ∧ SA t W g0 H0 g1 (k a S1) D) := by
  cases p with
  | ok a S => exact fun v H' g' f w r => ⟨a, S, g', b.step f w, f, r, SA.shift f.le h⟩
  | exc e S => exact fun c d H' g' f w r => h c d σ H' g' (b.fr.trans f) w r
  | bad => exact h
/-- evaluate, then go on -/
theorem rdS_bind {γ δ : Type} {R1 : Hp → Gh → γ → δ → Prop} {f : Den γ} {k : γ → Ev → Store → Out Fl} (h : rdS t W (fun ev S => (f ev S).bind fun x S1 => k x ev S1) D σ H) :
    rd t W R1 f σ H (fun v H1 => ∃ g0 H0 ev S1 g1 a, SB t g0 H0 ev S1 g1 σ H1 ∧ R1 H1 g1 a v ∧ SA t W g0 H0 g1 (k a ev S1) D) := by
  obtain ⟨g0, H0, ev, S, g, b, h⟩ := h
  exact ⟨ev, S, g, b.sl, b.w, (SA.bindE b h).mono fun v H1 ⟨a, S1, g1, b1, f1, r1, h1⟩ => ⟨g0, H0, ev, S1, g1, a, b1, r1, h1⟩⟩
/-- a shared object is changed -/
theorem Wld.setC (w : Wld t S g H) {n : Nat} {p : Addr} {o : HO} {c c0 : Cell} (hi : g.io n = some p) (hc : S[n]? = some c0) (hg : goneC c0 = false) (ok : CellOk t g (upd H p o) p c) : Wld t (S.set n c) g (upd H p o) where
  sub := fun a u e => by
    obtain ⟨a', e1, e2, _⟩ := w.cel n c0 hc
    rw [hi] at e1; cases e1
    rw [upd_ne (ne_of_none e (e2 hg))]; exact w.sub a u e
  cel := fun m c' e => by
    by_cases hm : n = m
    · subst hm
      rw [List.getElem?_set_self (w.len n p hi)] at e
      cases e
      obtain ⟨a', e1, e2, _⟩ := w.cel n c0 hc
      rw [hi] at e1; cases e1
      exact ⟨p, hi, fun _ => e2 hg, ok⟩
    · rw [List.getElem?_set_ne hm] at e
      obtain ⟨a, e1, e2, e3⟩ := w.cel m c' e
      have ne : a ≠ p := fun z => by subst z; exact hm (w.inj n m a hi e1)
      refine ⟨a, e1, e2, ?_⟩
      cases c' with
      | lst l => obtain ⟨xs, q, r⟩ := e3; exact ⟨xs, by rw [upd_ne ne]; exact q, r⟩
      | ins c ns vs => obtain ⟨C, dx, xs, hc, q, el, r⟩ := e3; exact ⟨C, dx, xs, hc, by rw [upd_ne ne]; exact q, el, r⟩
      | dct _ => obtain ⟨kvs, q, ek, r⟩ := e3; exact ⟨kvs, by rw [upd_ne ne]; exact q, ek, r⟩
      | gone => obtain ⟨o', q⟩ := e3; exact ⟨o', by rw [upd_ne ne]; exact q⟩
  len := fun m a e => by rw [List.length_set]; exact w.len m a e
  inj := w.inj
  tab := fun q hq => (w.tab q hq).mono (w.tab q hq).1 (w.tab q hq).2.1 (upd_ne (fun z => (w.tab q hq).2.1 n (by rw [z]; exact hi))) fun _ _ e => e
theorem Frm.setC (f : Frm g0 H0 g H) {n : Nat} {p : Addr} {o : HO} (hi : g.io n = some p) : Frm g0 H0 g (upd H p o) where
  leG := f.leG
  leI := f.leI
  keep := fun a u e na nt => by
    have ne : a ≠ p := fun z => by
      subst z
      rcases f.newI n a hi with q | q
      · exact na n q
      · rw [q] at e; cases e
    rw [upd_ne ne]; exact f.keep a u e na nt
  newG := f.newG
  newI := f.newI
  live := fun a e => by
    by_cases ha : a = p
    · rw [ha, upd_same]; simp
    · rw [upd_ne ha]; exact f.live a e
theorem Slots.setC (s : Slots t ev g σ H) {n : Nat} {p : Addr} {o : HO} (hi : g.io n = some p) : Slots t ev g σ (upd H p o) where
  len := s.len
  at' := fun i sl e => by
    have q := s.at' i sl e
    cases sl with
    | no => trivial
    | th => exact q
    | va d => exact q
    | ow l =>
      obtain ⟨a, xs, e1, h1, h2, h3, r⟩ := q
      exact ⟨a, xs, e1, by rw [upd_ne (fun z => h3 n (by rw [hi, z]))]; exact h1, h2, h3, r⟩
  dis := s.dis
theorem SB.setC (b : SB t g0 H0 ev S g σ H) {n : Nat} {p : Addr} {o : HO} {c c0 : Cell} (hi : g.io n = some p) (hc : S[n]? = some c0) (hg : goneC c0 = false) (ok : CellOk t g (upd H p o) p c) : SB t g0 H0 ev (S.set n c) g σ (upd H p o) :=
  ⟨b.sl.setC hi, b.w.setC hi hc hg ok, b.fr.setC hi, b.nw⟩
/-- a list of a name's own is changed -/
theorem SB.setO (b : SB t g0 H0 ev S g σ H) {i : Nat} {l l' : List Mp.D} {p : Addr} {xs' : List V} (hl : ev[i]? = some (.ow l)) (hp : σ[i]? = some (some (.ref p))) (r : Reps t g l' xs') : SB t g0 H0 (ev.set i (.ow l')) S g σ (upd H p (.lst xs')) := by
  have hi : i < ev.length := (List.getElem?_eq_some_iff.mp hl).1
  obtain ⟨p', xs, e1, h1, h2, h3, _⟩ := b.sl.at' i _ hl
  rw [hp] at e1; cases e1
  refine ⟨⟨by simpa using b.sl.len, fun j s e => ?_, fun j k l1 l2 q e1 e2 e3 e4 => ?_⟩, b.w.own h2 h3 (fun _ z => by rw [h1] at z; cases z), b.fr.own (b.nw i l p hl hp), fun j l1 q e1 e2 => ?_⟩
  · by_cases hj : i = j
    · subst hj
      rw [List.getElem?_set_self hi] at e
      cases e
      exact ⟨p, xs', hp, upd_same, h2, h3, r⟩
    · rw [List.getElem?_set_ne hj] at e
      have q := b.sl.at' j s e
      cases s with
      | no => trivial
      | th => exact q
      | va d => exact q
      | ow lj =>
        obtain ⟨a, ys, q1, q2, q3, q4, q5⟩ := q
        refine ⟨a, ys, q1, ?_, q3, q4, q5⟩
        rw [upd_ne (fun z => by subst z; exact hj (b.sl.dis i j l lj a hl e hp q1))]
        exact q2
  · have old : ∀ {j : Nat} {l1 : List Mp.D}, (ev.set i (.ow l'))[j]? = some (.ow l1) → ∃ l2, ev[j]? = some (.ow l2) := fun {j l1} e => by
      by_cases hj : i = j
      · subst hj; exact ⟨l, hl⟩
      · rw [List.getElem?_set_ne hj] at e; exact ⟨l1, e⟩
    obtain ⟨m1, q1⟩ := old e1
    obtain ⟨m2, q2⟩ := old e2
    exact b.sl.dis j k m1 m2 q q1 q2 e3 e4
  · by_cases hj : i = j
    · subst hj
      rw [hp] at e2; cases e2
      exact b.nw i l p hl hp
    · rw [List.getElem?_set_ne hj] at e1
      exact b.nw j l1 q e1 e2
/-- frozen -/
theorem SB.frz1 (b : SB t g0 H0 ev S g σ H) {i : Nat} {l : List Mp.D} (hl : ev[i]? = some (.ow l)) : ∃ g', SB t g0 H0 (ev.set i (.va (.lst l))) S g' σ H ∧ Le g g' := by
  have hi : i < ev.length := (List.getElem?_eq_some_iff.mp hl).1
  obtain ⟨p, xs, e1, h1, h2, h3, r⟩ := b.sl.at' i _ hl
  have hp0 := b.nw i l p hl e1
  have mo : ∀ {ds : List Mp.D} {ys : List V}, Reps t g ds ys → Reps t (g.add p (.lst xs)) ds ys := fun r => Reps.mono (Frm.add b.w h1 h2).1 (fun _ _ q => q) _ _ r
  refine ⟨g.add p (.lst xs), ⟨⟨by simpa using b.sl.len, fun j s e => ?_, fun j k l1 l2 q e1 e2 e3 e4 => ?_⟩, b.w.add h1 h2 h3, b.fr.freeze hp0 h2, fun j l1 q e1 e2 => ?_⟩, (Frm.add b.w h1 h2).1, fun _ _ q => q⟩
  · by_cases hj : i = j
    · subst hj
      rw [List.getElem?_set_self hi] at e
      cases e
      refine ⟨.ref p, e1, ?_⟩
      simp only [Rep]
      exact ⟨p, xs, rfl, SqL.added, mo r⟩
    · rw [List.getElem?_set_ne hj] at e
      have q := b.sl.at' j s e
      cases s with
      | no => trivial
      | th =>
        obtain ⟨i, q1, q2, q3, q4⟩ := q
        exact ⟨i, q1, q2, (Frm.add b.w h1 h2).1 _ _ q3, q4.mono (Frm.add b.w h1 h2).1 (fun _ _ q => q)⟩
      | va d =>
        obtain ⟨x, q1, q2⟩ := q
        exact ⟨x, q1, Rep.mono (Frm.add b.w h1 h2).1 (fun _ _ q => q) _ _ q2⟩
      | ow lj =>
        obtain ⟨a, ys, q1, q2, q3, q4, q5⟩ := q
        refine ⟨a, ys, q1, q2, ?_, q4, mo q5⟩
        show upd g.G p (.lst xs) a = none
        rw [upd_ne (fun z => by subst z; exact hj (b.sl.dis i j l lj a hl e e1 q1))]
        exact q3
  · have old : ∀ {j : Nat} {l1 : List Mp.D}, (ev.set i (.va (.lst l)))[j]? = some (.ow l1) → ev[j]? = some (.ow l1) := fun {j l1} e => by
      by_cases hj : i = j
      · subst hj; rw [List.getElem?_set_self hi] at e; cases e
      · rw [List.getElem?_set_ne hj] at e; exact e
    exact b.sl.dis j k l1 l2 q (old e1) (old e2) e3 e4
  · by_cases hj : i = j
    · subst hj; rw [List.getElem?_set_self hi] at e1; cases e1
    · rw [List.getElem?_set_ne hj] at e1; exact b.nw j l1 q e1 e2
theorem SB.frz : ∀ (is : List Nat) {ev : Ev} {g : Gh}, SB t g0 H0 ev S g σ H → ∃ g', SB t g0 H0 (frzE ev is) S g' σ H ∧ Le g g'
  | [], _, g, b => ⟨g, b, Le.refl g⟩
  | i :: r, ev, g, b => by
    unfold frzE
    split
    · rename_i l hl
      obtain ⟨g', b', l'⟩ := b.frz1 hl
      obtain ⟨g2, b2, l2⟩ := SB.frz r b'
      exact ⟨g2, b2, l'.trans l2⟩
    · exact SB.frz r b
end
/-- what a store of names leaves of the lists of names' own -/
theorem set_ow {ev : Ev} {i j : Nat} {d : D} {l : List D} (e : (ev.set i (.va d))[j]? = some (.ow l)) : ev[j]? = some (.ow l) ∧ j ≠ i := by
  by_cases hj : i = j
  · subst hj
    by_cases hi : i < ev.length
    · rw [List.getElem?_set_self hi] at e; cases e
    · rw [List.getElem?_eq_none (by simpa using hi)] at e; cases e
  · rw [List.getElem?_set_ne hj] at e; exact ⟨e, Ne.symm hj⟩
mutual
theorem setT_ow : ∀ (tg : Tg) (d : D) (ev ev2 : Ev) (j : Nat) (l : List D), setT tg d ev = some ev2 → ev2[j]? = some (.ow l) → ev[j]? = some (.ow l) ∧ j ∉ slotsT tg
  | .nm i, d, ev, ev2, j, l, h, e => by
    simp only [setT] at h
    split at h
    · cases h
      obtain ⟨a, b⟩ := set_ow e
      exact ⟨a, by simpa [slotsT] using b⟩
    · cases h
  | .tp ts, d, ev, ev2, j, l, h, e => by
    cases d <;> simp only [setT] at h <;> try (cases h; done)
    obtain ⟨a, b⟩ := setTs_ow ts _ ev ev2 j l h e
    exact ⟨a, by simpa [slotsT] using b⟩
theorem setTs_ow : ∀ (ts : List Tg) (ds : List D) (ev ev2 : Ev) (j : Nat) (l : List D), setTs ts ds ev = some ev2 → ev2[j]? = some (.ow l) → ev[j]? = some (.ow l) ∧ j ∉ slotsTs ts
  | [], ds, ev, ev2, j, l, h, e => by
    cases ds with
    | nil => simp only [setTs] at h; cases h; exact ⟨e, by simp [slotsTs]⟩
    | cons _ _ => simp only [setTs] at h; cases h
  | t :: ts, ds, ev, ev2, j, l, h, e => by
    cases ds with
    | nil => simp only [setTs] at h; cases h
    | cons d ds =>
      simp only [setTs] at h
      cases z : setT t d ev with
      | none => rw [z] at h; cases h
      | some ev1 =>
        rw [z] at h
        obtain ⟨a, b⟩ := setTs_ow ts ds ev1 ev2 j l h e
        obtain ⟨a', b'⟩ := setT_ow t d ev ev1 j l z a
        exact ⟨a', by simp only [slotsTs, List.mem_append, not_or]; exact ⟨b', b⟩⟩
end
theorem SB.setT {t : Tp} {g0 g : Gh} {H0 H : Hp} {ev ev2 : Ev} {S : Store} {σ σ2 : St} (b : SB t g0 H0 ev S g σ H) {tg : Tg} {d : D} (h : Mp.setT tg d ev = some ev2) (s2 : Slots t ev2 g σ2 H) (o : OnlyAt (slotsT tg) σ σ2) : SB t g0 H0 ev2 S g σ2 H :=
  ⟨s2, b.w, b.fr, fun j l p e1 e2 => by
    obtain ⟨a, n⟩ := setT_ow tg d ev ev2 j l h e1
    rw [o.2 j n] at e2
    exact b.nw j l p a e2⟩
/-! ### statements -/
section
variable {X : Cx} {t : Tp} {W : WX} {pos : Pos} {a b : Expr} {fa fb fc : Den D} {ba bb : Bool}
def nxF (f : Den Fl) : Den Fl := f
theorem pss_nilX : PSs X [] (rdS t W fun ev S => .ok (.nx ev) S) := by
  refine PSs.imp pss_nil fun D σ H h => ?_
  obtain ⟨g0, H0, ev, S, g, b, h⟩ := h
  exact h σ H g b (Le.refl g)
theorem pss_consX {st : Stmt} {rest : List Stmt} {f1 f2 : Den Fl} (h1 : PS X st (rdS t W f1)) (h2 : PSs X rest (rdS t W f2)) :
    PSs X (st :: rest) (rdS t W fun ev S => (f1 ev S).bind fun l S1 => match l with | .nx ev1 => f2 ev1 S1 | _ => .ok l S1) := by
  refine PSs.imp (pss_cons h1 h2) fun D σ H h => ?_
  obtain ⟨g0, H0, ev, S, g, b, h⟩ := h
  refine ⟨g0, H0, ev, S, g, b, ?_⟩
  dsimp only at h
  cases z : f1 ev S with
  | ok l S1 =>
    rw [z, Out.bind_ok] at h
    cases l with
    | nx ev1 => exact fun σ' H' g' b' l' => ⟨g0, H0, ev1, S1, g', b', SA.shift l' h⟩
    | rt d => exact h
    | bk ev1 => exact h
    | ct ev1 => exact h
  | exc e S1 => rw [z] at h; exact h
  | bad => rw [z] at h; exact h
theorem ps_passX : PS X (.Pass pos) (rdS t W fun ev S => .ok (.nx ev) S) := by
  refine PS.imp ps_pass fun D σ H h => ?_
  obtain ⟨g0, H0, ev, S, g, b, h⟩ := h
  exact h σ H g b (Le.refl g)
theorem ps_brkX : PS X (.Break pos) (rdS t W fun ev S => .ok (.bk ev) S) := by
  refine PS.imp ps_break fun D σ H h => ?_
  obtain ⟨g0, H0, ev, S, g, b, h⟩ := h
  exact h σ H g b (Le.refl g)
theorem ps_contX : PS X (.Continue pos) (rdS t W fun ev S => .ok (.ct ev) S) := by
  refine PS.imp ps_continue fun D σ H h => ?_
  obtain ⟨g0, H0, ev, S, g, b, h⟩ := h
  exact h σ H g b (Le.refl g)
theorem ps_retX (ha : PE X a (rdE t W true fa)) : PS X (.Return (some a) pos) (rdS t W fun ev S => (fa ev S).bind fun x S1 => .ok (.rt x) S1) := by
  refine PS.imp (ps_ret ha) fun D σ H h => ?_
  obtain ⟨ev, S, g, sl, w, h⟩ := rdS_bind (R1 := RepB t true) h
  exact ⟨ev, S, g, sl, w, h.mono fun v H1 ⟨g0, H0, ev, S1, g1, x, b1, r1, h1⟩ => h1 v H1 g1 b1.fr b1.w r1.str⟩
theorem ps_retNX : PS X (.Return none pos) (rdS t W fun _ S => .ok (.rt .non) S) := by
  refine PS.imp ps_retN fun D σ H h => ?_
  obtain ⟨g0, H0, ev, S, g, b, h⟩ := h
  exact h _ H g b.fr b.w (by simp only [Rep])
theorem ps_exX (ha : PE X a (rdE t W ba fa)) (hs : swapsWith a none pos.line X.env = pure false) : PS X (.Expr a pos) (rdS t W fun ev S => (fa ev S).bind fun _ S1 => .ok (.nx ev) S1) := by
  refine PS.imp (ps_expr ha hs) fun D σ H h => ?_
  obtain ⟨ev, S, g, sl, w, h⟩ := rdS_bind (R1 := RepB t ba) h
  exact ⟨ev, S, g, sl, w, h.mono fun v H1 ⟨g0, H0, ev, S1, g1, x, b1, r1, h1⟩ => h1 σ H1 g1 b1 (Le.refl g1)⟩
theorem ps_ifX {c : Expr} {ft : Den Bool} {p q : List Stmt} {f1 f2 : Den Fl} (hc : PT X c (rdT t W ft)) (h1 : PSs X p (rdS t W f1)) (h2 : PSs X q (rdS t W f2)) :
    PS X (.If c p q pos) (rdS t W fun ev S => (ft ev S).bind fun k S2 => if k then f1 ev S2 else f2 ev S2) := by
  refine PS.imp (ps_if hc h1 h2) fun D σ H h => ?_
  obtain ⟨ev, S, g, sl, w, h⟩ := rdS_bind (R1 := RepT) h
  refine ⟨ev, S, g, sl, w, h.mono fun v H1 ⟨g0, H0, ev, S1, g1, k, b1, r1, h1⟩ => ?_⟩
  cases (show k = v from r1)
  cases v with
  | true => rw [if_pos rfl] at h1 ⊢; exact ⟨g0, H0, ev, S1, g1, b1, h1⟩
  | false => rw [if_neg (by decide)] at h1 ⊢; exact ⟨g0, H0, ev, S1, g1, b1, h1⟩
/-- target = e -/
def asgDen (tg : Tg) (fa : Den D) : Den Fl := fun ev S => (fa ev S).bind fun x S1 => match setT tg x ev with | some ev1 => .ok (.nx ev1) S1 | none => .bad
theorem asg_rd {tg : Tg} {D : Ends} {σ : St} {H : Hp} (h : rdS t W (asgDen tg fa) D σ H) : rdE t W true fa σ H (fun x H1 => gX t tg x σ H1 D.nx) := by
  obtain ⟨ev, S, g, sl, w, h⟩ := rdS_bind (R1 := RepB t true) h
  refine ⟨ev, S, g, sl, w, h.mono fun v H1 ⟨g0, H0, ev, S1, g1, x, b1, r1, h1⟩ => ?_⟩
  cases z : setT tg x ev with
  | none => rw [z] at h1; exact h1.elim
  | some ev1 =>
    rw [z] at h1
    exact ⟨ev, S1, g1, x, ev1, b1.sl, b1.w, r1.str, z, fun σ2 s2 o => h1 σ2 H1 g1 (b1.setT z s2 o) (Le.refl g1)⟩
theorem ps_asgX {tg : Tg} {e : Expr} (ha : PE X a (rdE t W true fa)) (hg : PG X e (gX t tg)) (hs : swapsWithSole [e] a pos.line X.env = pure false) (hw : swappedStores [e] a X.env = pure none) (h1 : (assignEach [e] X.env).map (·.2) = [assign e X.env]) :
    PS X (.Assign [e] a pos) (rdS t W (asgDen tg fa)) :=
  PS.imp (ps_asg ha hg hs hw h1) fun D σ H h => asg_rd h
/-- name = a new list -/
def asgFDen (i : Nat) (fa : Den D) : Den Fl := fun ev S => (fa ev S).bind fun x S1 => match x with | .lst l => if i < ev.length then .ok (.nx (ev.set i (.ow l))) S1 else .bad | _ => .bad
theorem asgF_rd {i : Nat} {D : Ends} {σ : St} {H : Hp} (h : rdS t W (asgFDen i fa) D σ H) : rdF t W fa σ H (fun x H1 => gName i x σ H1 D.nx) := by
  obtain ⟨g0, H0, ev, S, g, b, h⟩ := h
  refine ⟨ev, S, g, b.sl, b.w, (SA.bindE b h).mono fun v H1 ⟨x, S1, g1, b1, f1, r1, h1⟩ => ?_⟩
  obtain ⟨l, p, xs, rfl, rfl, q0, q1, q2, q3, rs⟩ := r1
  dsimp only at h1
  split at h1
  · rename_i hi
    have hp0 : H0 p = none := by
      cases z : H0 p with
      | none => rfl
      | some o => exact absurd q0 (b.fr.live p (by rw [z]; simp))
    refine h1 _ H1 g1 ⟨b1.sl.setO hi q1 q2 q3 rs fun j l' hj e1 e2 => ?_, b1.w, b1.fr, fun j l' q e1 e2 => ?_⟩ (Le.refl g1)
    · obtain ⟨p', xs', e3, e4, _⟩ := b.sl.at' j _ e1
      rw [e2] at e3; cases e3
      rw [q0] at e4; cases e4
    · by_cases hj : i = j
      · subst hj
        rw [List.getElem?_set_self (by rw [← b1.sl.len]; exact hi)] at e2
        cases e2; exact hp0
      · rw [List.getElem?_set_ne hj] at e1 e2
        exact b.nw j l' q e1 e2
  · exact h1.elim
theorem ps_asgFX {i : Nat} {x : Str} {pos' : Pos} (hN : X.N.Nodup) (hi : X.N[i]? = some x) (hx : Loc X.env.scope x) (hf : X.fn x = true ∨ X.env.scope.names.lookup x = some .local) (ha : PE X a (rdF t W fa)) (hs : swapsWith a (some (.Name x pos')) pos.line X.env = pure false) :
    PS X (.Assign [.Name x pos'] a pos) (rdS t W (asgFDen i fa)) :=
  PS.imp (ps_set hN hi hx ha hs hf) fun D σ H h => asgF_rd h
/-- name += e (whole numbers) -/
def augDen (i : Nat) (o : Operator) (fa : Den D) : Den Fl := fun ev S => match getS ev i with
  | some x => (fa ev S).bind fun y S1 => (Out.of (augD o x y) S1).bind fun z S2 => if i < ev.length then .ok (.nx (ev.set i (.va z))) S2 else .bad
  | none => .bad
theorem ps_augX {i : Nat} {x : Str} {pos' : Pos} {o : Operator} (hN : X.N.Nodup) (hi : X.N[i]? = some x) (hx : Loc X.env.scope x) (hf : X.fn x = true ∨ X.env.scope.names.lookup x = some .local) (ha : PE X a (rdE t W ba fa)) (ho : o = .Add ∨ o = .Sub) :
    PS X (.AugAssign (.Name x pos') o a pos) (rdS t W (augDen i o fa)) := by
  have key : ∀ (f : Int → Int → Int), (∀ x y z, augD o x y = some z → ∃ m n, x = .int m ∧ y = .int n ∧ z = .int (f m n)) → ∀ D σ H, rdS t W (augDen i o fa) D σ H → tAug i (rdE t W ba fa) (ipI f) D σ H := by
    intro f hf D σ H h
    obtain ⟨g0, H0, ev, S, g, b, h⟩ := h
    unfold augDen at h
    cases z : getS ev i with
    | none => rw [z] at h; exact h.elim
    | some d =>
      rw [z] at h
      obtain ⟨v, e1, r⟩ := b.sl.get z
      refine ⟨v, e1, ev, S, g, b.sl, b.w, (SA.bindE (R1 := RepB t ba) b h).mono fun u H1 hh => ?_⟩
      obtain ⟨y, S1, g1, b1, f1, r1, h1⟩ := hh
      cases q : augD o d y with
      | none => rw [q] at h1; exact h1.elim
      | some w =>
        rw [q, Out.of_some, Out.bind_ok] at h1
        obtain ⟨m, n, rfl, rfl, rfl⟩ := hf _ _ _ q
        have e2 : v = .int m := by simpa only [Rep] using r
        have e3 := (RepB.weak r1).int
        split at h1
        · rename_i hl
          refine ⟨m, n, e2, e3, h1 _ H1 g1 (b1.setT (tg := .nm i) (d := .int (f m n)) (by simp only [setT, if_pos hl]) (b1.sl.setV hl (by simp only [Rep])) ⟨by simp, fun j hj => ?_⟩) (Le.refl g1)⟩
          simp only [slotsT, List.mem_singleton] at hj
          rw [List.getElem?_set_ne (Ne.symm hj)]
        · exact h1.elim
  rcases ho with rfl | rfl
  · refine PS.imp (ps_aug hN hi hx ha ip_add hf) (key (fun i j => i + j) fun x y z e => ?_)
    unfold augD at e
    split at e
    · cases e; exact ⟨_, _, rfl, rfl, rfl⟩
    · rename_i h; cases h
    · cases e
  · refine PS.imp (ps_aug hN hi hx ha ip_sub hf) (key (fun i j => i - j) fun x y z e => ?_)
    unfold augD at e
    split at e
    · rename_i h; cases h
    · cases e; exact ⟨_, _, rfl, rfl, rfl⟩
    · cases e
/-- xs.append(e) -/
def appDen (i : Nat) (fa : Den D) : Den Fl := fun ev S => match ev[i]? with
  | some (.ow l) => (fa ev S).bind fun x S1 => if l.length < 16777216 then .ok (.nx (ev.set i (.ow (l ++ [x])))) S1 else .bad
  | some (.va (.cel n)) => match S[n]? with
    | some (.lst _) => (fa ev S).bind fun x S1 => match S1[n]? with
      | some (.lst l) => if l.length < 16777216 then .ok (.nx ev) (S1.set n (.lst (l ++ [x]))) else .bad
      | _ => .bad
    | _ => .bad
  | _ => .bad
theorem ow_at {ev : Ev} {g : Gh} {σ : St} {H : Hp} (s : Slots t ev g σ H) {i : Nat} {l : List D} (e : ev[i]? = some (.ow l)) : ∃ p xs, σ[i]? = some (some (.ref p)) ∧ H p = some (.lst xs) ∧ (∀ n, g.io n ≠ some p) ∧ Reps t g l xs := by
  obtain ⟨p, xs, e1, h1, _, h3, r⟩ := s.at' i _ e
  exact ⟨p, xs, e1, h1, h3, r⟩
theorem app_rd {i : Nat} {D : Ends} {σ : St} {H : Hp} {K : PySem.W.Frag} (h : rdS t W (appDen i fa) D σ H) : tDrop (tBM K "list" rAppend (tVar i) (tCons (rdE t W true fa) tNil)) D σ H := by
  obtain ⟨g0, H0, ev, S, g, b, h⟩ := h
  unfold appDen at h
  cases z : ev[i]? with
  | none => rw [z] at h; exact h.elim
  | some s =>
    cases s with
    | no => rw [z] at h; exact h.elim
    | th => rw [z] at h; exact h.elim
    | va d =>
      rw [z] at h
      cases d <;> try (exact h.elim)
      rename_i n
      dsimp only at h
      obtain ⟨v, e1, rv⟩ := b.sl.at' i _ z
      simp only [Rep] at rv
      obtain ⟨p, rfl, hi⟩ := rv
      split at h
      case h_2 => exact h.elim
      rename_i l0 hs
      obtain ⟨p', q1, _, xs0, h1, r0⟩ := b.w.cel n _ hs
      rw [hi] at q1; cases q1
      refine ⟨.ref p, e1, .inl ⟨rfl, xs0, .inl (.inl h1)⟩, ev, S, g, b.sl, b.w, (SA.bindE (R1 := RepB t true) b h).mono fun v H1 hh => ?_⟩
      obtain ⟨x, S1, g1, b1, f1, r1, h2⟩ := hh
      split at h2
      case h_2 => exact h2.elim
      rename_i l hs1
      split at h2
      case isFalse => exact h2.elim
      rename_i hl
      have hi1 : g1.io n = some p := f1.leI _ _ hi
      obtain ⟨p', q1, _, xs, h3, r3⟩ := b1.w.cel n _ hs1
      rw [hi1] at q1; cases q1
      refine ⟨p, xs, v, rfl, rfl, h3, ?_, ?_⟩
      · rw [sizeLine_eq, ← r3.len]; exact hl
      · exact h2 _ _ _ (b1.setC hi1 hs1 rfl ⟨_, upd_same, r3.append (.one r1.str)⟩) (Le.refl _)
    | ow l =>
      rw [z] at h
      obtain ⟨p, xs, e1, h1, h3, r⟩ := ow_at b.sl z
      refine ⟨.ref p, e1, .inl ⟨rfl, xs, .inl (.inl h1)⟩, ev, S, g, b.sl, b.w, (SA.bindE (R1 := RepB t true) b h).mono fun v H1 hh => ?_⟩
      obtain ⟨x, S1, g1, b1, f1, r1, h2⟩ := hh
      split at h2
      · rename_i hl
        refine ⟨p, xs, v, rfl, rfl, f1.keep _ _ h1 h3 (fun _ z => nomatch z), ?_, ?_⟩
        · rw [sizeLine_eq, ← r.len]; exact hl
        · exact h2 _ _ _ (b1.setO z e1 ((r.frm f1).append (.one r1.str))) (Le.refl _)
      · exact h2.elim
theorem ps_appX {i : Nat} {x : Str} {p1 p2 p3 : Pos} (hv : PE X (.Name x p1) (tVar i)) (ha : PE X a (rdE t W true fa)) (hs : ∀ v p, a ≠ .Starred v p) (hl : (p2.endLine == p3.line) = true) :
    PS X (.Expr (.Call (.Attribute (.Name x p1) "append" p2) [a] [] p3) pos) (rdS t W (appDen i fa)) := by
  refine PS.imp (ps_expr (pe_bm PySem.F.plainAttrs_list PySem.F.slot_list_append PySem.F.type_list_append mt_append hv (pa_cons ha pa_nil (star1 hs)) rfl ?_ hl (star1 hs) rfl)) fun D σ H h => app_rd h
  rw [star1 hs]; rfl
/-- xs.clear() -/
def clrDen (i : Nat) : Den Fl := fun ev S => match ev[i]? with
  | some (.ow _) => .ok (.nx (ev.set i (.ow []))) S
  | some (.va (.cel n)) => match S[n]? with
    | some (.lst _) => .ok (.nx ev) (S.set n (.lst []))
    | _ => .bad
  | _ => .bad
theorem ps_clrX {i : Nat} {x : Str} {p1 p2 p3 : Pos} (hv : PE X (.Name x p1) (tVar i)) (hl : (p2.endLine == p3.line) = true) :
    PS X (.Expr (.Call (.Attribute (.Name x p1) "clear" p2) [] [] p3) pos) (rdS t W (clrDen i)) := by
  refine PS.imp (ps_expr (pe_bm0 PySem.F.plainAttrs_list PySem.F.slot_list_clear PySem.F.type_list_clear mt_clear hv rfl hl)) fun D σ H h => ?_
  obtain ⟨g0, H0, ev, S, g, b, h⟩ := h
  unfold clrDen at h
  cases z : ev[i]? with
  | none => rw [z] at h; exact h.elim
  | some s =>
    cases s with
    | no => rw [z] at h; exact h.elim
    | th => rw [z] at h; exact h.elim
    | va d =>
      rw [z] at h
      cases d <;> try (exact h.elim)
      rename_i n
      dsimp only at h
      obtain ⟨v, e1, rv⟩ := b.sl.at' i _ z
      simp only [Rep] at rv
      obtain ⟨p, rfl, hi⟩ := rv
      split at h
      case h_2 => exact h.elim
      rename_i l0 hs
      obtain ⟨p', q1, _, xs0, h1, r0⟩ := b.w.cel n _ hs
      rw [hi] at q1; cases q1
      exact ⟨.ref p, e1, .inl ⟨rfl, xs0, .inl (.inl h1)⟩, p, xs0, rfl, rfl, h1, h _ _ _ (b.setC hi hs rfl ⟨_, upd_same, .nil⟩) (Le.refl _)⟩
    | ow l =>
      rw [z] at h
      obtain ⟨p, xs, e1, h1, h3, r⟩ := ow_at b.sl z
      exact ⟨.ref p, e1, .inl ⟨rfl, xs, .inl (.inl h1)⟩, p, xs, rfl, rfl, h1, h _ _ _ (b.setO z e1 .nil) (Le.refl _)⟩
/-- c[i] = e, c a shared list -/
def asgIDen (fe fo fi : Den D) : Den Fl := fun ev S => (fe ev S).bind fun x S1 => (fo ev S1).bind fun o S2 => (fi ev S2).bind fun k S3 => match o, k with
  | .cel n, .int k => match S3[n]? with
    | some (.lst l) => match ixN l.length k with
      | some j => .ok (.nx ev) (S3.set n (.lst (l.set j x)))
      | none => .bad
    | _ => .bad
  | _, _ => .bad
theorem ps_asgIX {e o i : Expr} {fe fo fi : Den D} {bo bi : Bool} {p2 : Pos} (he : PE X e (rdE t W true fe)) (ho : PE X o (rdE t W bo fo)) (hi : PE X i (rdE t W bi fi)) (hn : ∀ a b p, i ≠ .Slice a b none p) (hs : swapsWith e (some (.Subscript o i p2)) pos.line X.env = pure false) (hw : swappedStores [.Subscript o i p2] e X.env = pure none) :
    PS X (.Assign [.Subscript o i p2] e pos) (rdS t W (asgIDen fe fo fi)) := by
  refine PS.imp (ps_asg he (pg_sub ho hi set_list (fun v => ?_)) hs hw rfl) fun D σ H h => ?_
  · cases i with
    | Slice l u st p =>
      cases st with
      | none => exact absurd rfl (hn _ _ _)
      | some _ => rfl
    | _ => rfl
  · obtain ⟨ev, S, g, sl, w, h⟩ := rdS_bind (R1 := RepB t true) h
    refine ⟨ev, S, g, sl, w, h.mono fun v H1 ⟨g0, H0, ev, S1, g1, x, b1, r1, h1⟩ => ?_⟩
    refine ⟨ev, S1, g1, b1.sl, b1.w, (SA.bindE (R1 := RepB t bo) b1 h1).mono fun u H2 ⟨oo, S2, g2, b2, f2, r2, h2⟩ => ?_⟩
    refine ⟨ev, S2, g2, b2.sl, b2.w, (SA.bindE (R1 := RepB t bi) b2 h2).mono fun u3 H3 hh => ?_⟩
    obtain ⟨kk, S3, g3, b3, f3, r3, h3⟩ := hh
    cases oo <;> try (exact h3.elim)
    cases kk <;> try (exact h3.elim)
    rename_i n k
    dsimp only at h3
    cases z : S3[n]? with
    | none => rw [z] at h3; exact h3.elim
    | some c =>
      rw [z] at h3
      cases c <;> try (exact h3.elim)
      rename_i l
      dsimp only at h3
      cases q : ixN l.length k with
      | none => rw [q] at h3; exact h3.elim
      | some j =>
        rw [q] at h3
        obtain ⟨p, e1, i1⟩ := ((RepB.weak r2).frm f3).cel
        obtain ⟨p', e2, _, xs, hp, rs⟩ := b3.w.cel n _ z
        rw [i1] at e2; cases e2
        refine ⟨p, xs, k, j, e1, (RepB.weak r3).int, hp, by rw [← rs.len]; exact q, h3 _ _ _ (b3.setC i1 z rfl ⟨_, upd_same, ?_⟩) (Le.refl _)⟩
        exact Reps.set ((r1.str.frm f2).frm f3) j rs
/-- o.f = e -/
def asgADen (fe fo : Den D) (f : Str) : Den Fl := fun ev S => (fe ev S).bind fun x S1 => (fo ev S1).bind fun o S2 => match o with
  | .cel n => match S2[n]? with
    | some (.ins c ns vs) => if decide (ns.length < 1000) then .ok (.nx ev) (S2.set n (.ins c (setF f x ns vs).1 (setF f x ns vs).2)) else .bad
    | _ => .bad
  | _ => .bad
theorem ps_asgAX {tb : Tab} {T : Top} {C : Cl} {k : Nat} {s : Sc} (c : Ctx t tb T C k W s X) (G : Glob t tb T C k) {e o : Expr} {fe fo : Den D} {bo : Bool} {p2 : Pos} {f : Str} (hf : f ∈ tb.ats) (he : PE X e (rdE t W true fe)) (ho : PE X o (rdE t W bo fo)) (hs : swapsWith e (some (.Attribute o f p2)) pos.line X.env = pure false) :
    PS X (.Assign [.Attribute o f p2] e pos) (rdS t W (asgADen fe fo f)) := by
  refine PS.imp (ps_fld ho he hs) fun D σ H h => ?_
  obtain ⟨ev, S, g, sl, w, h⟩ := rdS_bind (R1 := RepB t true) h
  refine ⟨ev, S, g, sl, w, h.mono fun v H1 ⟨g0, H0, ev, S1, g1, x, b1, r1, h1⟩ => ?_⟩
  refine ⟨ev, S1, g1, b1.sl, b1.w, (SA.bindE (R1 := RepB t bo) b1 h1).mono fun u H2 hh => ?_⟩
  obtain ⟨oo, S2, g2, b2, f2, r2, h2⟩ := hh
  cases oo <;> try (exact h2.elim)
  rename_i n
  dsimp only at h2
  split at h2
  case h_2 => exact h2.elim
  rename_i cc ns vs hs2
  split at h2
  case isFalse => exact h2.elim
  rename_i hl
  obtain ⟨p, rfl, hi⟩ := (RepB.weak r2).cel
  obtain ⟨p', e2, _, A, dx, xs, hc, hp, el, rs⟩ := b2.w.cel n _ hs2
  rw [hi] at e2; cases e2
  obtain ⟨k1, k2⟩ := G.ats cc A f hc hf
  obtain ⟨ys, q1, q2, q3⟩ := setF_rep (f := f) (r1.str.frm f2) el rs
  refine ⟨p, A, dx, _, rfl, hp, by rw [c.hK]; exact k1, by rw [c.hK]; exact k2, ?_, ?_⟩
  · have := of_decide_eq_true hl
    rw [List.length_zip, ← el]; omega
  · refine h2 _ _ _ (b2.setC hi hs2 rfl ⟨A, dx, ys, hc, ?_, q2, q3⟩) (Le.refl _)
    rw [upd_same, q1]
end
end Mp

set_option Elab.async false
set_option linter.all false
set_option maxRecDepth 100000
set_option autoImplicit false
set_option maxHeartbeats 2000000
/-! xs.extend([..]) -/
namespace Mp
open PySem PySem.Spec L2
section
variable {X : Cx} {t : Tp} {W : WX} {a : Expr} {fa : Den D} {pos : Pos}
def extDen (i : Nat) (fa : Den D) : Den Fl := fun ev S => match ev[i]? with
  | some (.ow l) => (fa ev S).bind fun x S1 => match x with
    | .lst m => if lineB (l.length + m.length) then .ok (.nx (ev.set i (.ow (l ++ m)))) S1 else .bad
    | _ => .bad
  | some (.va (.cel n)) => match S[n]? with
    | some (.lst _) => (fa ev S).bind fun x S1 => match x with
      | .lst m => match S1[n]? with
        | some (.lst l) => if lineB (l.length + m.length) then .ok (.nx ev) (S1.set n (.lst (l ++ m))) else .bad
        | _ => .bad
      | _ => .bad
    | _ => .bad
  | _ => .bad
theorem ext_rd {i : Nat} {D : Ends} {σ : St} {H : Hp} {K : PySem.W.Frag} (h : rdS t W (extDen i fa) D σ H) : tDrop (tBM K "list" rExtend (tVar i) (tCons (rdF t W fa) tNil)) D σ H := by
  obtain ⟨g0, H0, ev, S, g, b, h⟩ := h
  unfold extDen at h
  cases z : ev[i]? with
  | none => rw [z] at h; exact h.elim
  | some s =>
    cases s with
    | no => rw [z] at h; exact h.elim
    | th => rw [z] at h; exact h.elim
    | va d =>
      rw [z] at h
      cases d <;> try (exact h.elim)
      rename_i n
      dsimp only at h
      obtain ⟨v, e1, rv⟩ := b.sl.at' i _ z
      simp only [Rep] at rv
      obtain ⟨p, rfl, hi⟩ := rv
      split at h
      case h_2 => exact h.elim
      rename_i l0 hs
      obtain ⟨p', q1, _, xs0, h1, r0⟩ := b.w.cel n _ hs
      rw [hi] at q1; cases q1
      refine ⟨.ref p, e1, .inl ⟨rfl, xs0, .inl (.inl h1)⟩, ev, S, g, b.sl, b.w, (SA.bindE (R1 := RepF t H) b h).mono fun v H1 hh => ?_⟩
      obtain ⟨x, S1, g1, b1, f1, ⟨m, pm, ys, rfl, rfl, _, hm, _, hmi, rm⟩, h2⟩ := hh
      dsimp only at h2
      split at h2
      case h_2 => exact h2.elim
      rename_i l hs1
      split at h2
      case isFalse => exact h2.elim
      rename_i hl
      have hi1 : g1.io n = some p := f1.leI _ _ hi
      obtain ⟨p', q1, _, xs, h3, r3⟩ := b1.w.cel n _ hs1
      rw [hi1] at q1; cases q1
      refine ⟨p, pm, xs, ys, rfl, rfl, h3, hm, ?_, ?_⟩
      · have := lineB_ok hl; rw [r3.len, rm.len] at this; exact this
      · exact h2 _ _ _ (b1.setC hi1 hs1 rfl ⟨_, upd_same, r3.append rm⟩) (Le.refl _)
    | ow l =>
      rw [z] at h
      obtain ⟨p, xs, e1, h1, h3, r⟩ := ow_at b.sl z
      refine ⟨.ref p, e1, .inl ⟨rfl, xs, .inl (.inl h1)⟩, ev, S, g, b.sl, b.w, (SA.bindE (R1 := RepF t H) b h).mono fun v H1 hh => ?_⟩
      obtain ⟨x, S1, g1, b1, f1, ⟨m, pm, ys, rfl, rfl, _, hm, _, hmi, rm⟩, h2⟩ := hh
      dsimp only at h2
      split at h2
      · rename_i hl
        refine ⟨p, pm, xs, ys, rfl, rfl, f1.keep _ _ h1 h3 (fun _ z => nomatch z), hm, ?_, ?_⟩
        · have := lineB_ok hl; rw [r.len, rm.len] at this; exact this
        · exact h2 _ _ _ (b1.setO z e1 ((r.frm f1).append rm)) (Le.refl _)
      · exact h2.elim
theorem ps_extX {i : Nat} {x : Str} {p1 p2 p3 : Pos} (hv : PE X (.Name x p1) (tVar i)) (ha : PE X a (rdF t W fa)) (hs : ∀ v p, a ≠ .Starred v p) (hl : (p2.endLine == p3.line) = true) :
    PS X (.Expr (.Call (.Attribute (.Name x p1) "extend" p2) [a] [] p3) pos) (rdS t W (extDen i fa)) := by
  refine PS.imp (ps_expr (pe_bm PySem.F.plainAttrs_list PySem.F.slot_list_extend PySem.F.type_list_extend mt_extend hv (pa_cons ha pa_nil (star1 hs)) rfl ?_ hl (star1 hs) rfl)) fun D σ H h => ext_rd h
  rw [star1 hs]; rfl
/-- xs.extend(e), e a shared list -/
def extCDen (i : Nat) (fa : Den D) : Den Fl := fun ev S => match ev[i]? with
  | some (.ow l) => (fa ev S).bind fun x S1 => match x with
    | .cel m => match S1[m]? with
      | some (.lst z) => if lineB (l.length + z.length) then .ok (.nx (ev.set i (.ow (l ++ z)))) S1 else .bad
      | _ => .bad
    | _ => .bad
  | some (.va (.cel n)) => match S[n]? with
    | some (.lst _) => (fa ev S).bind fun x S1 => match x with
      | .cel m => match S1[n]?, S1[m]? with
        | some (.lst l), some (.lst z) => if lineB (l.length + z.length) then .ok (.nx ev) (S1.set n (.lst (l ++ z))) else .bad
        | _, _ => .bad
      | _ => .bad
    | _ => .bad
  | _ => .bad
theorem extC_rd {i : Nat} {ba : Bool} {D : Ends} {σ : St} {H : Hp} {K : PySem.W.Frag} (h : rdS t W (extCDen i fa) D σ H) : tDrop (tBM K "list" rExtend (tVar i) (tCons (rdE t W ba fa) tNil)) D σ H := by
  obtain ⟨g0, H0, ev, S, g, b, h⟩ := h
  unfold extCDen at h
  cases z : ev[i]? with
  | none => rw [z] at h; exact h.elim
  | some s =>
    cases s with
    | no => rw [z] at h; exact h.elim
    | th => rw [z] at h; exact h.elim
    | va d =>
      rw [z] at h
      cases d <;> try (exact h.elim)
      rename_i n
      dsimp only at h
      obtain ⟨v, e1, rv⟩ := b.sl.at' i _ z
      simp only [Rep] at rv
      obtain ⟨p, rfl, hi⟩ := rv
      split at h
      case h_2 => exact h.elim
      rename_i l0 hs
      obtain ⟨p', q1, _, xs0, h1, r0⟩ := b.w.cel n _ hs
      rw [hi] at q1; cases q1
      refine ⟨.ref p, e1, .inl ⟨rfl, xs0, .inl (.inl h1)⟩, ev, S, g, b.sl, b.w, (SA.bindE (R1 := RepB t ba) b h).mono fun v H1 hh => ?_⟩
      obtain ⟨x, S1, g1, b1, f1, rx, h2⟩ := hh
      cases x <;> try (exact h2.elim)
      rename_i m
      dsimp only at h2
      split at h2
      case h_2 => exact h2.elim
      rename_i l zl hs1 hs2
      split at h2
      case isFalse => exact h2.elim
      rename_i hl
      obtain ⟨pm, rfl, him⟩ := (RepB.weak rx).cel
      have hi1 : g1.io n = some p := f1.leI _ _ hi
      obtain ⟨p', q1, _, xs, h3, r3⟩ := b1.w.cel n _ hs1
      rw [hi1] at q1; cases q1
      obtain ⟨p', q1, _, ys, h4, r4⟩ := b1.w.cel m _ hs2
      rw [him] at q1; cases q1
      refine ⟨p, pm, xs, ys, rfl, rfl, h3, h4, ?_, ?_⟩
      · have := lineB_ok hl; rw [r3.len, r4.len] at this; exact this
      · exact h2 _ _ _ (b1.setC hi1 hs1 rfl ⟨_, upd_same, r3.append r4⟩) (Le.refl _)
    | ow l =>
      rw [z] at h
      obtain ⟨p, xs, e1, h1, h3, r⟩ := ow_at b.sl z
      refine ⟨.ref p, e1, .inl ⟨rfl, xs, .inl (.inl h1)⟩, ev, S, g, b.sl, b.w, (SA.bindE (R1 := RepB t ba) b h).mono fun v H1 hh => ?_⟩
      obtain ⟨x, S1, g1, b1, f1, rx, h2⟩ := hh
      cases x <;> try (exact h2.elim)
      rename_i m
      dsimp only at h2
      split at h2
      case h_2 => exact h2.elim
      rename_i zl hs2
      obtain ⟨pm, rfl, him⟩ := (RepB.weak rx).cel
      obtain ⟨p', q1, _, ys, h4, r4⟩ := b1.w.cel m _ hs2
      rw [him] at q1; cases q1
      split at h2
      · rename_i hl
        refine ⟨p, pm, xs, ys, rfl, rfl, f1.keep _ _ h1 h3 (fun _ z => nomatch z), h4, ?_, ?_⟩
        · have := lineB_ok hl; rw [r.len, r4.len] at this; exact this
        · exact h2 _ _ _ (b1.setO z e1 ((r.frm f1).append r4)) (Le.refl _)
      · exact h2.elim
theorem ps_extCX {i : Nat} {ba : Bool} {x : Str} {p1 p2 p3 : Pos} (hv : PE X (.Name x p1) (tVar i)) (ha : PE X a (rdE t W ba fa)) (hs : ∀ v p, a ≠ .Starred v p) (hl : (p2.endLine == p3.line) = true) :
    PS X (.Expr (.Call (.Attribute (.Name x p1) "extend" p2) [a] [] p3) pos) (rdS t W (extCDen i fa)) := by
  refine PS.imp (ps_expr (pe_bm PySem.F.plainAttrs_list PySem.F.slot_list_extend PySem.F.type_list_extend mt_extend hv (pa_cons ha pa_nil (star1 hs)) rfl ?_ hl (star1 hs) rfl)) fun D σ H h => extC_rd h
  rw [star1 hs]; rfl
/-- own[i] = e -/
def asgODen (i : Nat) (fe fi : Den D) : Den Fl := fun ev S => (fe ev S).bind fun x S1 => match ev[i]? with
  | some (.ow l) => (fi ev S1).bind fun k S2 => match k with
    | .int k => match ixN l.length k with
      | some j => .ok (.nx (ev.set i (.ow (l.set j x)))) S2
      | none => .bad
    | _ => .bad
  | _ => .bad
theorem ps_asgOX {e i' : Expr} {i : Nat} {x : Str} {fe fi : Den D} {bi : Bool} {p1 p2 : Pos} (he : PE X e (rdE t W true fe)) (hv : PE X (.Name x p1) (tVar i)) (hi : PE X i' (rdE t W bi fi)) (hn : ∀ a b p, i' ≠ .Slice a b none p) (hs : swapsWith e (some (.Subscript (.Name x p1) i' p2)) pos.line X.env = pure false) (hw : swappedStores [.Subscript (.Name x p1) i' p2] e X.env = pure none) :
    PS X (.Assign [.Subscript (.Name x p1) i' p2] e pos) (rdS t W (asgODen i fe fi)) := by
  refine PS.imp (ps_asg he (pg_sub hv hi set_list (fun v => ?_)) hs hw rfl) fun D σ H h => ?_
  · cases i' with
    | Slice l u st p =>
      cases st with
      | none => exact absurd rfl (hn _ _ _)
      | some _ => rfl
    | _ => rfl
  · obtain ⟨ev, S, g, sl, w, h⟩ := rdS_bind (R1 := RepB t true) h
    refine ⟨ev, S, g, sl, w, h.mono fun v H1 ⟨g0, H0, ev, S1, g1, x, b1, r1, h1⟩ => ?_⟩
    cases z : ev[i]? with
    | none => rw [z] at h1; exact h1.elim
    | some s =>
      rw [z] at h1
      cases s with
      | no => exact h1.elim
      | th => exact h1.elim
      | va _ => exact h1.elim
      | ow l =>
        obtain ⟨p, xs, e1, hp, hpi, r⟩ := ow_at b1.sl z
        refine ⟨.ref p, e1, ev, S1, g1, b1.sl, b1.w, (SA.bindE (R1 := RepB t bi) b1 h1).mono fun u3 H3 hh => ?_⟩
        obtain ⟨kk, S3, g3, b3, f3, r3, h3⟩ := hh
        cases kk <;> try (exact h3.elim)
        rename_i k
        dsimp only at h3
        cases q : ixN l.length k with
        | none => rw [q] at h3; exact h3.elim
        | some j =>
          rw [q] at h3
          obtain rfl := (RepB.weak r3).int
          have hp3 := f3.keep _ _ hp hpi (fun _ z => nomatch z)
          refine ⟨p, xs, k, j, rfl, rfl, hp3, by rw [← r.len]; exact q, h3 _ _ _ (b3.setO z e1 ((r.frm f3).set (RepB.frm f3 r1).str j)) (Le.refl _)⟩
/-- (expr).append(e) on a shared list -/
def appEDen (fo fe : Den D) : Den Fl := fun ev S => (fo ev S).bind fun o S1 => match o with
  | .cel n => match S1[n]? with
    | some (.lst _) => (fe ev S1).bind fun x S2 => match S2[n]? with
      | some (.lst l) => if l.length < 16777216 then .ok (.nx ev) (S2.set n (.lst (l ++ [x]))) else .bad
      | _ => .bad
    | _ => .bad
  | _ => .bad
theorem appE_rd {o e : Expr} {fo fe : Den D} {bo : Bool} {D : Ends} {σ : St} {H : Hp} {K : PySem.W.Frag} (h : rdS t W (appEDen fo fe) D σ H) : tDrop (tBM K "list" rAppend (rdE t W bo fo) (tCons (rdE t W true fe) tNil)) D σ H := by
  obtain ⟨ev, S, g, sl, w, h⟩ := rdS_bind (R1 := RepB t bo) h
  refine ⟨ev, S, g, sl, w, h.mono fun v H1 ⟨g0, H0, ev1, S1, g1, oo, b1, r1, h1⟩ => ?_⟩
  cases oo <;> try (exact h1.elim)
  rename_i n
  dsimp only at h1
  split at h1
  case h_2 => exact h1.elim
  rename_i l0 hs
  obtain ⟨p, rfl, hi⟩ := (RepB.weak r1).cel
  obtain ⟨p', q1, _, xs0, hp0, r0⟩ := b1.w.cel n _ hs
  rw [hi] at q1; cases q1
  refine ⟨.inl ⟨rfl, xs0, .inl (.inl hp0)⟩, ev1, S1, g1, b1.sl, b1.w, (SA.bindE (R1 := RepB t true) b1 h1).mono fun v2 H2 hh => ?_⟩
  obtain ⟨x, S2, g2, b2, f2, r2, h2⟩ := hh
  split at h2
  case h_2 => exact h2.elim
  rename_i l hs1
  split at h2
  case isFalse => exact h2.elim
  rename_i hl
  have hi1 : g2.io n = some p := f2.leI _ _ hi
  obtain ⟨p', q1, _, xs, h3, r3⟩ := b2.w.cel n _ hs1
  rw [hi1] at q1; cases q1
  refine ⟨p, xs, v2, rfl, rfl, h3, ?_, ?_⟩
  · rw [sizeLine_eq, ← r3.len]; exact hl
  · exact h2 _ _ _ (b2.setC hi1 hs1 rfl ⟨_, upd_same, r3.append (.one r2.str)⟩) (Le.refl _)
theorem ps_appEX {o e : Expr} {fo fe : Den D} {bo : Bool} {p2 p3 : Pos} (ho : PE X o (rdE t W bo fo)) (he : PE X e (rdE t W true fe)) (hs : ∀ v p, e ≠ .Starred v p) (hba : attributeBase o "append" X.env (eval o X.env) = eval o X.env) (hl : (p2.endLine == p3.line) = true) :
    PS X (.Expr (.Call (.Attribute o "append" p2) [e] [] p3) pos) (rdS t W (appEDen fo fe)) := by
  refine PS.imp (ps_expr (pe_bm PySem.F.plainAttrs_list PySem.F.slot_list_append PySem.F.type_list_append mt_append ho (pa_cons he pa_nil (star1 hs)) hba ?_ hl (star1 hs) rfl)) fun D σ H h => appE_rd (o := o) (e := e) h
  rw [star1 hs]; rfl
end
section
variable {t : Tp} {W : WX} {X : Cx} {o i : Expr} {fo fi : Den D} {bo bi : Bool} {pos : Pos}
/-- d[k] = e -/
def dputDen (fe fo fi : Den D) : Den Fl := fun ev S => (fe ev S).bind fun v S1 => (fo ev S1).bind fun x S2 => (fi ev S2).bind fun y S3 => match celN x, dctS S3 x, keyD y with
  | some n, some l, some z => if l.length < 16777216 then .ok (.nx ev) (S3.set n (.dct (dkP l z v))) else .bad
  | _, _, _ => .bad
theorem ps_dputX {e : Expr} {fe : Den D} {p2 : Pos} (hu : X.A.units + 65 < cLine) (he : PE X e (rdE t W true fe)) (ho : PE X o (rdE t W bo fo)) (hi : PE X i (rdE t W bi fi)) (hs : swapsWith e (some (.Subscript o i p2)) pos.line X.env = pure false) :
    PS X (.Assign [.Subscript o i p2] e pos) (rdS t W (dputDen fe fo fi)) := by
  refine PS.imp (ps_dput (by omega) ho hi he hs) fun D σ H h => ?_
  obtain ⟨ev, S, g, sl, w, h⟩ := rdS_bind (R1 := RepB t true) h
  refine ⟨ev, S, g, sl, w, h.mono fun v H1 ⟨g0, H0, ev, S1, g1, x, b1, r1, h1⟩ => ?_⟩
  refine ⟨ev, S1, g1, b1.sl, b1.w, (SA.bindE (R1 := RepB t bo) b1 h1).mono fun u H2 ⟨oo, S2, g2, b2, f2, r2, h2⟩ => ?_⟩
  refine ⟨ev, S2, g2, b2.sl, b2.w, (SA.bindE (R1 := RepB t bi) b2 h2).mono fun u3 H3 ⟨kk, S3, g3, b3, f3, r3, h3⟩ => ?_⟩
  split at h3
  case h_2 => exact h3.elim
  rename_i n l z e1 e2 e3
  split at h3
  case isFalse => exact h3.elim
  rename_i hl
  obtain ⟨n', a, m, rfl, rfl, hi', hs', hm, r⟩ := dct_at b3.w ((RepB.weak r2).frm f3) e2
  cases e1
  have rv := (r1.str.frm f2).frm f3
  have r' := r.put (k := z) rv
  rw [key_rel (RepB.weak r3) e3]
  refine ⟨a, _, rfl, DPut.k hm (by rw [r.len]; rw [sizeLine_eq]; exact hl), ?_⟩
  exact h3 _ _ _ (b3.setC hi' hs' rfl ⟨_, upd_same, r'.to.1, r'.to.2⟩) (Le.refl _)
end
end Mp

set_option Elab.async false
set_option linter.all false
set_option maxRecDepth 100000
set_option autoImplicit false
set_option maxHeartbeats 2000000
/-! raise C(..), try .. except, __init__ of exceptions -/
namespace Mp
open PySem PySem.Spec L2
/-! ### __init__ -/
section
variable {X : Cx}
/-- Base.__init__(self, ..), Base an own class over ValueError -/
theorem pe_keinit {nm : Str} {B : Addr} {e : Expr} {es : List Expr} {ta : TA} {p1 p2 pos : Pos} (hg : Gl X nm) (hm : X.mg nm = some (.ref B)) (hd : (nm == ("__debug__" : Str)) = false)
    (hs : PySem.W.specialIn X.K (.ref B) "__getattribute__" = some (some (.builtin "type.__getattribute__"))) (hr : PySem.W.readsIn X.K B (.type "type") = true)
    (vV : PySem.W.findCls X.K (.ref B) (.type "type") "__init__" = some (.val (.builtin "ValueError.__init__"))) (ha : PA X (e :: es) ta)
    (hst : ∀ x ∈ e :: es, ∀ v p, x ≠ .Starred v p) (hlen : (e :: es).length < 30) (hq : (p2.endLine == pos.line) = true) :
    PE X (.Call (.Attribute (.Name nm p1) "__init__" p2) (e :: es) [] pos) (tVeI X.K ta) := by
  refine ⟨fun pins s σ H Q I h => PySem.W.methodCall_KW (ld_glob I hg hm ?_ hd) (eval_mth hst hlen hq)⟩
  refine PySem.W.method_cls I.kIn hs (PySem.W.cls_value I.kIn hr vV (by decide +kernel) ?_)
  refine PyProof.Rows.callWith_method1 (thn (ha.run pos pins _ σ H _ (I.tok _) h) fun us s1 ⟨vs, H1, I1, r1, a, C, ws, ev, hl, T, ea, q⟩ => ?_) (star1 (hst e List.mem_cons_self)) (starN fun e he => hst e (List.mem_cons_of_mem _ he))
  subst ev
  cases r1 with
  | @cons _ u0 _ ur ra rw' =>
    obtain rfl : u0 = Value.ref a := ra
    refine oinit_ok T I1 ea ?_ fun s' J => ⟨.non, H1, J, rfl, q⟩
    rw [← Paired.length rw', sizeLine_eq]; omega
/-- self.f = f, .. -/
def tFld (K : PySem.W.Frag) : List (Str × Nat) → TS
  | [] => fun D σ H => D.nx σ H
  | (f, i) :: r => tSeq (tOst K f (tVar 0) (tVar i)) (tFld K r)
def fldB (sf : Str) : List (Str × Nat) → List Stmt → List Str → Bool
  | [], ss, _ => ss.isEmpty
  | (f, i) :: r, ss, N => match ss with
    | .Assign [.Attribute (.Name s1 _) f' _] (.Name x _) _ :: ss => decide (s1 = sf) && decide (f' = f) && (N[i]? == some x) && fldB sf r ss N
    | _ => false
theorem pss_fld {sf : Str} (h0 : X.N[0]? = some sf) (hv : ∀ x ∈ X.N, Vis X.env.scope x ∧ (x == ("__debug__" : Str)) = false ∧ (x == ("__classdict__" : Str)) = false) : ∀ (l : List (Str × Nat)) (ss : List Stmt), fldB sf l ss X.N = true → PSs X ss (tFld X.K l)
  | [], ss, h => by
    simp only [fldB, List.isEmpty_iff] at h
    subst h
    exact pss_nil
  | (f, i) :: r, ss, h => by
    simp only [fldB] at h
    split at h
    · simp only [Bool.and_eq_true, decide_eq_true_eq] at h
      obtain ⟨⟨⟨rfl, rfl⟩, h3⟩, h4⟩ := h
      have h3' := eq_of_beq h3
      have a0 := hv _ (List.mem_of_getElem? h0)
      have a1 := hv _ (List.mem_of_getElem? h3')
      exact pss_cons (ps_ost (pe_var h0 a0.1 a0.2.1 a0.2.2) (pe_var h3' a1.1 a1.2.1 a1.2.2) rfl) (pss_fld h0 hv r _ h4)
    · cases h
/-- further fields -/
theorem fld_more {K : PySem.W.Frag} {A a dx : Addr} (T : OexC K A) (ne : dx ≠ a) {D : Ends} {σ : St} (hs : σ[0]? = some (some (.ref a))) : ∀ (l : List (Str × Nat)) (ys : List V) (fs : List (Str × V)) (H : Hp), l.length = ys.length → (∀ (j : Nat) (f : Str) (i : Nat) (y : V), l[j]? = some (f, i) → ys[j]? = some y → σ[i]? = some (some y)) →
    (∀ p ∈ l, PySem.W.findIn K (.ref A) p.1 = some none) → fs.length + l.length ≤ 900 → H a = some (exo a A (some dx)) → H dx = some (exd dx fs) →
    (∀ H2, H2 a = some (exo a A (some dx)) → H2 dx = some (exd dx (((l.map (·.1)).zip ys).reverse ++ fs)) → (∀ b, b ≠ a → b ≠ dx → H2 b = H b) → D.nx σ H2) → tFld K l D σ H
  | [], ys, fs, H, hl, _, _, _, ha, hd, k => by
    refine k H ha ?_ fun _ _ _ => rfl
    simpa using hd
  | (f, i) :: r, [], fs, H, hl, _, _, _, ha, hd, k => by simp at hl
  | (f, i) :: r, y :: ys, fs, H, hl, hσ, hf, hn, ha, hd, k => by
    simp only [List.length_cons] at hl hn
    refine ⟨y, hσ 0 f i y rfl rfl, .ref a, hs, a, A, rfl, T, hf (f, i) List.mem_cons_self, .inr ⟨dx, fs, ha, hd, by omega, ?_⟩⟩
    refine fld_more T ne hs r ys ((f, y) :: fs) _ (by omega) (fun j f' i' y' h1 h2 => hσ (j + 1) f' i' y' (by simpa using h1) (by simpa using h2)) (fun p hp => hf p (List.mem_cons_of_mem _ hp)) (by simp only [List.length_cons]; omega) (by rw [upd_ne (Ne.symm ne)]; exact ha) upd_same fun H2 e1 e2 e3 => ?_
    refine k H2 e1 ?_ fun b h1 h2 => by rw [e3 b h1 h2, upd_ne h2]
    rw [e2]
    simp
/-- all fields -/
theorem fld_all {K : PySem.W.Frag} {A a : Addr} (T : OexC K A) {D : Ends} {σ : St} (hs : σ[0]? = some (some (.ref a))) {l : List (Str × Nat)} {ys : List V} {H : Hp} (h0 : l ≠ []) (hl : l.length = ys.length) (hσ : ∀ (j : Nat) (f : Str) (i : Nat) (y : V), l[j]? = some (f, i) → ys[j]? = some y → σ[i]? = some (some y))
    (hf : ∀ p ∈ l, PySem.W.findIn K (.ref A) p.1 = some none) (hn : l.length ≤ 800) (ha : H a = some (exo a A none))
    (k : ∀ dx H2, H dx = none → dx ≠ a → H2 a = some (exo a A (some dx)) → H2 dx = some (exd dx (((l.map (·.1)).zip ys).reverse)) → (∀ b, b ≠ a → b ≠ dx → H2 b = H b) → D.nx σ H2) : tFld K l D σ H := by
  match l, ys, h0, hl with
  | (f, i) :: r, y :: ys, _, hl =>
    simp only [List.length_cons] at hl hn
    refine ⟨y, hσ 0 f i y rfl rfl, .ref a, hs, a, A, rfl, T, hf (f, i) List.mem_cons_self, .inl ⟨ha, fun dx hdx ne => ?_⟩⟩
    refine fld_more T ne hs r ys [(f, y)] _ (by omega) (fun j f' i' y' h1 h2 => hσ (j + 1) f' i' y' (by simpa using h1) (by simpa using h2)) (fun p hp => hf p (List.mem_cons_of_mem _ hp)) (by simp only [List.length_cons, List.length_nil]; omega) upd_same (by rw [upd_ne ne, upd_same]) fun H2 e1 e2 e3 => ?_
    refine k dx H2 hdx ne e1 ?_ fun b h1 h2 => by rw [e3 b h1 h2, upd_ne h1, upd_ne h2]
    rw [e2]
    simp
/-- the body of such an __init__ -/
def initB (ke : Str) (ns N : List Str) (scope : Scope) : List Stmt → Bool
  | .Expr (.Call (.Attribute (.Name k _) i ap) [.Name sf _, .Constant (.str _) _ _] [] cp) _ :: rest => decide (k = ke) && decide (i = "__init__") && (ap.endLine == cp.line) && (scope.names.lookup ke == some .globalImplicit) && !(ke == ("__debug__" : Str)) && (N[0]? == some sf) && decide (N = sf :: ns) &&
      (N.all fun x => (scope.names.lookup x == some .local) && !(x == ("__debug__" : Str)) && !(x == ("__classdict__" : Str))) && fldB sf (ns.zipIdx 1) rest N && decide (ns.length ≤ 800) && !ns.isEmpty
  | _ => false
/-- what the base class must have -/
structure KeB (K : PySem.W.Frag) (B : Addr) : Prop where
  ga : PySem.W.specialIn K (.ref B) "__getattribute__" = some (some (.builtin "type.__getattribute__"))
  rd : PySem.W.readsIn K B (.type "type") = true
  fc : PySem.W.findCls K (.ref B) (.type "type") "__init__" = some (.val (.builtin "ValueError.__init__"))
theorem zipIdx_fst {α : Type} : ∀ (l : List α) (k : Nat), (l.zipIdx k).map (·.1) = l
  | [], _ => rfl
  | a :: l, k => by rw [List.zipIdx_cons, List.map_cons, zipIdx_fst l (k + 1)]
theorem init_ok {P : Program} {w : World} {K : PySem.W.Frag} {mg : Str → Option Value} {base : Heap} {ke nm qual : Str} {st : Stmt} {A B f : Addr} {fd : FuncData} {N ns : List Str} (F : Fun K nm qual st f fd) (S : FnScope N N (defScope st)) (T : OexC K A) (hB : mg ke = some (.ref B)) (kb : KeB K B)
    (hf : ∀ x ∈ ns, PySem.W.findIn K (.ref A) x = some none) (h : initB ke ns N (defScope st) (defBody st) = true) : FnOk P w K mg base (L2.CX P w) 1 f fd N (spX A ns) := by
  unfold initB at h
  split at h
  case h_2 => cases h
  rename_i k i ap sf cp rest e1 e2 e3 e4 e5 hbody
  simp only [Bool.and_eq_true, Bool.not_eq_true', decide_eq_true_eq] at h
  obtain ⟨⟨⟨⟨⟨⟨⟨⟨⟨⟨rfl, rfl⟩, hl⟩, hg⟩, hd⟩, h0⟩, hN⟩, hv⟩, hfl⟩, hn⟩, hne⟩ := h
  refine F.okX (k := 0) S (fun vs H Q E h => ?_) fun cdv A' outer s H vs Q E hr h => ?_
  · obtain ⟨a, ws, rfl, h2, _⟩ := h
    rw [hN]; simp [h2]
  obtain ⟨a, ws, rfl, h2, ha, q⟩ := h
  have h0' := eq_of_beq h0
  have hv' : ∀ x ∈ N, Vis (defScope st) x ∧ (x == ("__debug__" : Str)) = false ∧ (x == ("__classdict__" : Str)) = false := fun x hx => by
    have := List.all_eq_true.mp hv x hx
    simp only [Bool.and_eq_true, Bool.not_eq_true'] at this
    exact ⟨.inl (eq_of_beq this.1.1), this.1.2, this.2⟩
  have a0 := hv' _ (List.mem_of_getElem? h0')
  rw [hbody]
  have hst : (L2.start N (V.ref a :: ws))[0]? = some (some (.ref a)) := by unfold L2.start; simp
  refine ⟨_, pss_cons (ps_expr (pe_keinit (B := B) (eq_of_beq hg) hB hd kb.ga kb.rd kb.fc (pa_cons (pe_var h0' a0.1 a0.2.1 a0.2.2) (pa_cons pe_str pa_nil (star1 fun _ _ z => nomatch z)) (star1 fun _ _ z => nomatch z)) (by simp) (by simp) hl) rfl) (pss_fld h0' hv' _ _ hfl), ?_⟩
  refine ⟨.ref a, hst, a, A, [_], rfl, by simp, T, ha, ?_⟩
  refine fld_all T hst (l := ns.zipIdx 1) (ys := ws) ?_ ?_ ?_ ?_ (by simpa using hn) ha fun dx H2 n1 n2 n3 n4 n5 => q dx H2 n1 n2 n3 ?_ n5
  · intro z
    have : ns = [] := by simpa using z
    subst this
    cases hne
  · simp [h2]
  · intro j f' i y g1 g2
    rw [List.getElem?_zipIdx] at g1
    cases z : ns[j]? with
    | none => rw [z] at g1; cases g1
    | some x =>
      rw [z] at g1
      simp only [Option.map_some, Option.some.injEq, Prod.mk.injEq] at g1
      obtain ⟨_, rfl⟩ := g1
      unfold L2.start
      rw [List.getElem?_append_left (by have := (List.getElem?_eq_some_iff.mp g2).1; simp; omega), List.getElem?_map, Nat.add_comm 1 j, List.getElem?_cons_succ, g2]
      rfl
  · intro p hp
    refine hf p.1 ?_
    have := List.mem_map_of_mem (f := (·.1)) hp
    rwa [zipIdx_fst] at this
  · rw [zipIdx_fst] at n4; exact n4
end
/-! ### raise -/
def raiseDen (c : Nat) (ns : List Str) (fs : Den (List D)) : Den Fl := fun ev S => (fs ev S).bind fun l S1 => if ns.length == l.length then .exc ⟨c, ns.reverse, l.reverse⟩ S1 else .bad
section
variable {t : Tp} {tb : Tab} {T : Top} {C : Cl} {k : Nat} {W : WX} {s : Sc} {X : Cx} {pos : Pos}
theorem Reps.reverse {g : Gh} : ∀ {l : List D} {xs : List V}, Reps t g l xs → Reps t g l.reverse xs.reverse
  | [], xs, h => by simp only [Reps] at h; subst h; exact .nil
  | d :: l, xs, h => by
    simp only [Reps] at h
    obtain ⟨x, r, rfl, h1, h2⟩ := h
    rw [List.reverse_cons, List.reverse_cons]
    exact (Reps.reverse h2).append (.one h1)
theorem zip_rev {α β : Type} : ∀ {l : List α} {m : List β}, l.length = m.length → (l.zip m).reverse = l.reverse.zip m.reverse
  | [], [], _ => rfl
  | a :: l, b :: m, h => by
    simp only [List.length_cons, Nat.add_right_cancel_iff] at h
    rw [List.zip_cons_cons, List.reverse_cons, List.reverse_cons, List.reverse_cons, zip_rev h, List.zip_append (by simpa using h)]
    rfl
theorem ps_raiseX (c : Ctx t tb T C k W s X) (G : Glob t tb T C k) {cc : Nat} {nm : Str} {ns : List Str} {e : Expr} {es : List Expr} {bs : List Bool} {fs : Den (List D)} {p p' : Pos} (hx : tb.ex[cc]? = some (nm, ns)) (hne : ns ≠ []) (hk : kindB s nm .globalImplicit = true) (hd : (nm == ("__debug__" : Str)) = false) (hb : bs.all id = true) (hn : bs.length ≤ 1000)
    (ha : PA X (e :: es) (rdA t W bs fs)) (hs : ∀ x ∈ e :: es, ∀ v p, x ≠ .Starred v p) : PS X (.Raise (some (.Call (.Name nm p) (e :: es) [] p')) none pos) (rdS t W (raiseDen cc ns fs)) := by
  obtain ⟨A, hA, hm, hh⟩ := (G.ex cc nm ns hx).ex
  obtain ⟨fI, fd, ps, T1, iC, tI, hB, F1, xf, hf⟩ := hh hne
  have F : FnOk X.prog X.w X.K X.mg X.base (L2.CX X.prog X.w) 1 fI fd ps (spX A ns) := by
    rw [c.hP, c.hw, c.hK, c.hg, c.hb]; exact F1
  refine PS.imp (ps_raise c.calm c.tk (pmk_oex (ds := []) (dvs := []) (by rw [c.hK]; exact T1) (by rw [c.hK]; exact iC) (by rw [c.hK]; exact tI) F (c.room.mono (by have := G.k2; omega)) (by rw [c.hK]; exact hB) .nil (passes_call c.tk (fun _ _ _ _ z => z.elim)) (c.gl hk) (by rw [c.hg]; exact hm) ha hd (star1 (hs e List.mem_cons_self)) (starN fun e he => hs e (List.mem_cons_of_mem _ he)))) fun D σ H h => ?_
  obtain ⟨ev, S, g, sl, w, h⟩ := rdS_bind (R1 := fun H g ds xs => RepsX t H g bs ds xs) h
  refine ⟨ev, S, g, sl, w, h.mono fun vs H1 ⟨g0, H0, ev, S1, g1, l, b1, r1, h1⟩ => ?_⟩
  split at h1
  case isFalse => exact h1.elim
  rename_i hl
  have hl' : ns.length = l.length := eq_of_beq hl
  have rs := RepsX.strong hb r1
  have hlen : vs.length = ns.length := by rw [hl', ← rs.len]
  refine ⟨?_, fun a ha => ⟨a, vs ++ [], rfl, by simpa using hlen, upd_same, fun dx H2 n1 n2 n3 n4 n5 => ⟨rfl, dx, _, n3, n4, ?_, ?_⟩⟩⟩
  · have := (RepsX.len r1).1
    rw [hlen, hl']; omega
  · rw [upd_ne n2] at n1; exact n1
  · rw [upd_ne n2] at n1
    have eH : upd (del H2 a) dx (.xd ((ns.zip (vs ++ [])).reverse)) = upd H1 dx (.xd (ns.reverse.zip vs.reverse)) := by
      rw [List.append_nil, zip_rev hlen.symm]
      funext b
      by_cases hb : b = dx
      · rw [hb, upd_same, upd_same]
      · rw [upd_ne hb, upd_ne hb]
        by_cases hb2 : b = a
        · rw [hb2, del_same, ha]
        · rw [del_ne hb2, n5 b hb2 hb, upd_ne hb2]
    rw [eH]
    refine h1 (.ref A) (some dx) σ _ g1 (b1.fr.trans (Frm.fresh b1.w n1)) (b1.w.fresh n1) ⟨A, dx, vs.reverse, rfl, hA, rfl, upd_same, by simp [hlen], b1.w.ifree n1, ?_⟩
    exact rs.reverse
end
/-! ### except suites -/
section
variable {t : Tp} {tb : Tab} {T : Top} {C : Cl} {k : Nat} {W : WX} {s : Sc} {X : Cx} {pos : Pos}
theorem ExR.frm {g g' : Gh} {H H' : Hp} {x : Exn} {cls : Value} {d : Option Addr} (f : Frm g H g' H') (h : ExR t g H x cls d) : ExR t g' H' x cls d := by
  obtain ⟨C, dx, xs, e1, e2, e3, e4, e5, e6, r⟩ := h
  exact ⟨C, dx, xs, e1, e2, e3, f.keep _ _ e4 e6 (fun _ z => nomatch z), e5, f.inone e4 e6, r.frm f⟩
def rdSE (t : Tp) (a : Addr) (cls : Value) (d : Option Addr) (as : Option Nat) (f : Exn → Option D) : TE := fun σ H Q => ∃ x S g, Wld t S g H ∧ (∀ i, as = some i → i < σ.length → σ[i]? = some (some (.ref a))) ∧ ExR t g H x cls d ∧ ∃ dd, f x = some dd ∧
  ∀ v H' g', Frm g H g' H' → Wld t S g' H' → Rep t g' dd v → Q v H'
def rdSEs (t : Tp) (a : Addr) (cls : Value) (d : Option Addr) (as : Option Nat) (f : Exn → Option (List D)) : TA := fun σ H Q => ∃ x S g, Wld t S g H ∧ (∀ i, as = some i → i < σ.length → σ[i]? = some (some (.ref a))) ∧ ExR t g H x cls d ∧ ∃ dd, f x = some dd ∧
  ∀ v H' g', Frm g H g' H' → Wld t S g' H' → Reps t g' dd v → Q v H'
mutual
def chkSE (tb : Tab) (s : Sc) (as : Option Nat) : SE → Expr → Bool
  | .fld f, e => match e with
    | .Attribute (.Name n _) f' _ => decide (f = f') && (tb.ex.any fun p => p.2.contains f) && (match as with | some i => slotB s i n | none => false)
    | _ => false
  | .con c, e => match e with
    | .Constant c' _ _ => decide (c = c')
    | _ => false
  | .tup l, e => match e with
    | .Tuple es _ _ => chkSEs tb s as l es && decide (l.length ≤ 100)
    | _ => false
def chkSEs (tb : Tab) (s : Sc) (as : Option Nat) : List SE → List Expr → Bool
  | [], es => es.isEmpty
  | x :: xs, es => match es with
    | e :: es => chkSE tb s as x e && chkSEs tb s as xs es
    | [] => false
end
theorem chkSE_star {as : Option Nat} : ∀ {x : SE} {e : Expr}, chkSE tb s as x e = true → ∀ v p, e ≠ .Starred v p := by
  intro x e h v p z
  subst z
  cases x <;> simp [chkSE] at h
theorem evSEs_len {x : Exn} : ∀ {l : List SE} {ds : List D}, evSEs x l = some ds → ds.length = l.length
  | [], ds, h => by simp only [evSEs] at h; cases h; rfl
  | e :: r, ds, h => by
    simp only [evSEs] at h
    split at h
    · rename_i h1 h2
      cases h
      rw [List.length_cons, List.length_cons, evSEs_len h2]
    · cases h
mutual
theorem soundSE (G : Glob t tb T C k) (c : Ctx t tb T C k W s X) {a : Addr} {oe : Obj} {cls : Value} {d : Option Addr} {pn : List (Addr × Obj)} (hz : Zc cls d oe) (hf : ∃ vs, oe.data = .fields vs) {as : Option Nat} : ∀ (se : SE) (e : Expr), chkSE tb s as se e = true → PE (X.suite a ((a, oe) :: pn)) e (rdSE t a cls d as fun x => evSE x se)
  | .fld f, e, h => by
    simp only [chkSE] at h
    split at h
    case h_2 => cases h
    rename_i n p1 f' p2
    simp only [Bool.and_eq_true, decide_eq_true_eq] at h
    obtain ⟨⟨rfl, h1⟩, h2⟩ := h
    cases as with
    | none => cases h2
    | some i =>
      obtain ⟨a1, a2, a3, a4⟩ := c.slot h2
      refine ⟨fun pins sh σ H Q I hh => ?_⟩
      obtain ⟨x, S, g, w, hi, ⟨A, dx, xs, e1, e2, e3, e4, e5, e6, r⟩, dd, hd, q⟩ := hh
      obtain ⟨xf, hno⟩ := G.exf _ A f e2 h1
      simp only [evSE] at hd
      obtain ⟨v, hv, rv⟩ := getF_rep hd e5 r
      have pv : PE (X.suite a ((a, oe) :: pn)) (.Name n p1) (tVar i) := pe_var a1 a2 a3 a4
      exact (pe_xf (X := X) (C := A) (by rw [c.hK]; exact xf) (by rw [c.hK]; exact hno) hz hf pv rfl).run pins sh σ H Q I ⟨.ref a, hi i rfl (by have h1 := (List.getElem?_eq_some_iff.mp a1).1; have h2 := I.len; have h3 : (X.suite a ((a, oe) :: pn)).N = X.N := rfl; rw [h3] at h2; omega), rfl, e1, dx, _, v, e3, e4, hv, q _ _ _ (Frm.refl _ _) w rv⟩
  | .con cc, e, h => by
    simp only [chkSE] at h
    split at h
    case h_2 => cases h
    simp only [decide_eq_true_eq] at h
    subst h
    refine ⟨fun pins sh σ H Q I hh => ?_⟩
    obtain ⟨x, S, g, w, hi, ex, dd, hd, q⟩ := hh
    simp only [evSE] at hd
    have fin : ∀ {v : V}, Rep t g dd v → Q v H := fun r => q _ _ _ (Frm.refl _ _) w r
    unfold conD at hd
    split at hd
    · cases hd; exact pe_non.run pins sh σ H Q I (fin (by simp only [Rep]))
    · cases hd; exact pe_bl.run pins sh σ H Q I (fin (by simp only [Rep]))
    · cases hd; exact pe_int.run pins sh σ H Q I (fin (by simp only [Rep]))
    · cases hd; exact pe_str.run pins sh σ H Q I (fin (by simp only [Rep]))
    · cases hd
  | .tup l, e, h => by
    simp only [chkSE] at h
    split at h
    case h_2 => cases h
    simp only [Bool.and_eq_true, decide_eq_true_eq] at h
    refine PE.imp (pe_tup (soundSEs G c hz hf l _ h.1)) fun σ H Q hh => ?_
    obtain ⟨x, S, g, w, hi, ex, dd, hd, q⟩ := hh
    simp only [evSE, Option.map_eq_some_iff] at hd
    obtain ⟨ds, hd, rfl⟩ := hd
    refine ⟨x, S, g, w, hi, ex, ds, hd, fun vs H' g' f' w' rs => ⟨?_, fun p hp => ?_⟩⟩
    · rw [← rs.len, evSEs_len hd, sizeLine_eq]; omega
    · exact q _ _ _ (f'.trans (Frm.new w' hp)) (w'.new hp) (Rep.newT w' hp rs)
theorem soundSEs (G : Glob t tb T C k) (c : Ctx t tb T C k W s X) {a : Addr} {oe : Obj} {cls : Value} {d : Option Addr} {pn : List (Addr × Obj)} (hz : Zc cls d oe) (hf : ∃ vs, oe.data = .fields vs) {as : Option Nat} : ∀ (l : List SE) (es : List Expr), chkSEs tb s as l es = true → PA (X.suite a ((a, oe) :: pn)) es (rdSEs t a cls d as fun x => evSEs x l)
  | [], es, h => by
    simp only [chkSEs, List.isEmpty_iff] at h
    subst h
    refine PA.imp pa_nil fun σ H Q hh => ?_
    obtain ⟨x, S, g, w, hi, ex, dd, hd, q⟩ := hh
    simp only [evSEs] at hd
    cases hd
    exact q _ _ _ (Frm.refl _ _) w .nil
  | se :: l, es, h => by
    simp only [chkSEs] at h
    split at h
    case h_2 => cases h
    simp only [Bool.and_eq_true] at h
    refine PA.imp (pa_cons (soundSE G c hz hf se _ h.1) (soundSEs G c hz hf l _ h.2) (star1 (chkSE_star h.1))) fun σ H Q hh => ?_
    obtain ⟨x, S, g, w, hi, ex, dd, hd, q⟩ := hh
    simp only [evSEs] at hd
    split at hd
    case h_2 => cases hd
    rename_i d1 l1 h1 h2
    cases hd
    refine ⟨x, S, g, w, hi, ex, d1, h1, fun v H1 g1 f1 w1 r1 => ⟨x, S, g1, w1, hi, ex.frm f1, l1, h2, fun vs H2 g2 f2 w2 r2 => ?_⟩⟩
    exact q _ _ _ (f1.trans f2) w2 (.cons (r1.frm f2) r2)
end
/-! a slot of which nothing is known -/
theorem SB.no {g0 g : Gh} {H0 H : Hp} {ev : Ev} {S : Store} {σ : St} (b : SB t g0 H0 ev S g σ H) (i : Nat) (u : Option V) : SB t g0 H0 (ev.set i .no) S g (σ.set i u) H := by
  have old : ∀ {j : Nat} {l : List D}, (ev.set i .no)[j]? = some (.ow l) → ev[j]? = some (.ow l) ∧ i ≠ j := fun {j l} e => by
    by_cases hj : i = j
    · subst hj
      by_cases hi : i < ev.length
      · rw [List.getElem?_set_self hi] at e; cases e
      · rw [List.getElem?_eq_none (by simpa using hi)] at e; cases e
    · rw [List.getElem?_set_ne hj] at e; exact ⟨e, hj⟩
  refine ⟨⟨by simpa using b.sl.len, fun j s e => ?_, fun j k l l' p e1 e2 e3 e4 => ?_⟩, b.w, b.fr, fun j l p e1 e2 => ?_⟩
  · by_cases hj : i = j
    · subst hj
      by_cases hi : i < ev.length
      · rw [List.getElem?_set_self hi] at e; cases e; trivial
      · rw [List.getElem?_eq_none (by simpa using hi)] at e; cases e
    · rw [List.getElem?_set_ne hj] at e ⊢
      exact b.sl.at' j s e
  · obtain ⟨q1, n1⟩ := old e1
    obtain ⟨q2, n2⟩ := old e2
    rw [List.getElem?_set_ne n1] at e3
    rw [List.getElem?_set_ne n2] at e4
    exact b.sl.dis j k l l' p q1 q2 e3 e4
  · obtain ⟨q1, n1⟩ := old e1
    rw [List.getElem?_set_ne n1] at e2
    exact b.nw j l p q1 e2
def rdSU (t : Tp) (W : WX) (a : Addr) (cls : Value) (d : Option Addr) (as : Option Nat) (su : SU) : TS := fun D σ H => ∃ g0 H0 ev S g x, SB t g0 H0 ev S g σ H ∧ (∀ i, as = some i → i < σ.length → σ[i]? = some (some (.ref a))) ∧ ExR t g H x cls d ∧ SA t W g0 H0 g (evSU x ev S su) D
def chkSU (tb : Tab) (s : Sc) (as : Option Nat) : SU → Stmt → Bool
  | .asg i e, st => match st with
    | .Assign [.Name y _] e' _ => storeB s i y && noCompX e' && chkSE tb s as e e' && !(as == some i)
    | _ => false
  | .ret e, st => match st with
    | .Return (some e') _ => chkSE tb s as e e'
    | _ => false
  | .pass, st => match st with
    | .Pass _ => true
    | _ => false
where noCompX : Expr → Bool
  | .ListComp .. => false
  | .SetComp .. => false
  | .DictComp .. => false
  | _ => true
theorem swaps_noX {e : Expr} {tg : Option Expr} {n : Nat} {env : Env} (h : chkSU.noCompX e = true) : swapsWith e tg n env = pure false := by
  cases e <;> first | rfl | (simp only [chkSU.noCompX] at h; cases h)
theorem soundSU (G : Glob t tb T C k) (c : Ctx t tb T C k W s X) {a : Addr} {oe : Obj} {cls : Value} {d : Option Addr} {pn : List (Addr × Obj)} (hz : Zc cls d oe) (hf : ∃ vs, oe.data = .fields vs) {as : Option Nat} : ∀ (su : SU) (st : Stmt), chkSU tb s as su st = true → PS (X.suite a ((a, oe) :: pn)) st (rdSU t W a cls d as su)
  | .asg i se, st, h => by
    simp only [chkSU] at h
    split at h
    case h_2 => cases h
    simp only [Bool.and_eq_true] at h
    obtain ⟨⟨⟨h1, h2⟩, h3⟩, h4⟩ := h
    obtain ⟨a1, a2, a3⟩ := c.store h1
    refine PS.imp (ps_set (X := X.suite a ((a, oe) :: pn)) c.ndX a1 a2 (soundSE G c hz hf se _ h3) (swaps_noX h2) a3) fun D σ H hh => ?_
    obtain ⟨g0, H0, ev, S, g, x, b, hi, ex, hs⟩ := hh
    simp only [evSU] at hs
    cases z : evSE x se with
    | none => rw [z] at hs; exact hs.elim
    | some dd =>
      rw [z] at hs
      dsimp only at hs
      split at hs
      case isFalse => exact hs.elim
      rename_i hl
      refine ⟨x, S, g, b.w, hi, ex, dd, z, fun v H1 g1 f1 w1 r1 => ?_⟩
      have b1 := b.step f1 w1
      refine hs _ H1 g1 (b1.setT (tg := .nm i) (d := dd) (by simp only [setT, if_pos hl]) (b1.sl.setV hl r1) ⟨by simp, fun j hj => ?_⟩) f1.le
      simp only [slotsT, List.mem_singleton] at hj
      rw [List.getElem?_set_ne (Ne.symm hj)]
  | .ret se, st, h => by
    simp only [chkSU] at h
    split at h
    case h_2 => cases h
    refine PS.imp (ps_ret (soundSE G c hz hf se _ h)) fun D σ H hh => ?_
    obtain ⟨g0, H0, ev, S, g, x, b, hi, ex, hs⟩ := hh
    simp only [evSU] at hs
    cases z : evSE x se with
    | none => rw [z] at hs; exact hs.elim
    | some dd =>
      rw [z] at hs
      exact ⟨x, S, g, b.w, hi, ex, dd, z, fun v H1 g1 f1 w1 r1 => hs v H1 g1 (b.fr.trans f1) w1 r1⟩
  | .pass, st, h => by
    simp only [chkSU] at h
    split at h
    case h_2 => cases h
    refine PS.imp ps_pass fun D σ H hh => ?_
    obtain ⟨g0, H0, ev, S, g, x, b, hi, ex, hs⟩ := hh
    simp only [evSU] at hs
    exact hs σ H g b (Le.refl g)
/-! ### try -/
theorem Ctx.tr (c : Ctx t tb T C k W s X) {W' : WX} {pn : List (Addr × Obj)} {xe : Value → Shared → Prop} (tk : Takes (X.tr pn xe) W') (ow : PassesOwn (model X.prog X.w) X.A X.env xe) : Ctx t tb T C k W' s (X.tr pn xe) :=
  ⟨c.hK, c.hP, c.hw, c.hg, c.hb, c.hN, c.nd, c.kd, c.sk, c.calm, c.room, ow, tk, c.st, c.lm, c.thk⟩
/-- the context of a def's statements -/
structure FnTop (X : Cx) : Prop where
  stk : X.stack = X.env :: X.outer
  frm : X.env.frame = some X.env.locals
def trDen (k : Bk) (fa : Den D) (hs : List Hd) : Den Fl := fun ev S => (fa ev S).tr (fun x S1 => trK k x ev S1) (fun x S1 => hdl hs x ev S1)
/-- what follows a value -/
def kNx (t : Tp) (k : Bk) (v : V) (σ : St) (H : Hp) (D : Ends) : Prop := match k with
  | .ex => D.nx σ H
  | .asg tg => gX t tg v σ H D.nx
  | .ret => D.rt v H
/-- the body of a try, and what is wanted of an exception there -/
theorem tr_rd {k : Bk} {fa : Den D} {hs : List Hd} {D : Ends} {σ : St} {H : Hp} {W' : WX} (h : rdS t W (trDen k fa hs) D σ H)
    (hx : ∀ g0 H0 ev S g x cls d H', SB t g0 H0 ev S g σ H' → ExR t g H' x cls d → SA t W g0 H0 g (hdl hs x ev S) D → W' cls d σ H') : rdE t W' true fa σ H (fun v H1 => kNx t k v σ H1 D) := by
  obtain ⟨g0, H0, ev, S, g, b, h⟩ := h
  refine ⟨ev, S, g, b.sl, b.w, ?_⟩
  unfold trDen at h
  cases z : fa ev S with
  | bad => rw [z] at h; exact h.elim
  | exc x S1 =>
    rw [z] at h
    exact fun cls d H' g' f' w' ex => hx g0 H0 ev S1 g' x cls d H' (b.step f' w') ex (SA.shift f'.le h)
  | ok x S1 =>
    rw [z] at h
    intro v H1 g1 f1 w1 r1
    have b1 := b.step f1 w1
    have h1 : SA t W g0 H0 g1 (trK k x ev S1) D := SA.shift f1.le h
    cases k with
    | ex => exact h1 σ H1 g1 b1 (Le.refl _)
    | ret => exact h1 v H1 g1 b1.fr b1.w r1.str
    | asg tg =>
      simp only [trK] at h1
      cases q : setT tg x ev with
      | none => rw [q] at h1; exact h1.elim
      | some ev1 =>
        rw [q] at h1
        exact ⟨ev, S1, g1, x, ev1, b1.sl, b1.w, r1.str, q, fun σ2 s2 o => h1 σ2 H1 g1 (b1.setT q s2 o) (Le.refl g1)⟩
theorem evSU_no {x : Exn} {ev ev' : Ev} {S S' : Store} {su : SU} {i : Nat} (h : evSU x (ev.set i .no) S su = .ok (.nx ev') S') (hj : ∀ j e, su = .asg j e → j ≠ i) : ev'.set i .no = ev' := by
  have key : ∀ ev : Ev, (∀ s, ev[i]? = some s → s = .no) → ev.set i .no = ev := fun ev h => by
    by_cases hi : i < ev.length
    · have := h ev[i] (List.getElem?_eq_getElem hi)
      conv => lhs; rw [← this]
      simp
    · rw [List.set_eq_of_length_le (by omega)]
  have h0 : ∀ s, (ev.set i Sl.no)[i]? = some s → s = .no := fun s e => by
    by_cases hi : i < ev.length
    · rw [List.getElem?_set_self hi] at e; cases e; rfl
    · rw [List.getElem?_eq_none (by simpa using hi)] at e; cases e
  refine key ev' fun s e => ?_
  cases su with
  | asg j se =>
    simp only [evSU] at h
    split at h
    · split at h
      · cases h
        rw [List.getElem?_set_ne (hj j se rfl)] at e
        exact h0 s e
      · cases h
    · cases h
  | ret se =>
    simp only [evSU] at h
    split at h <;> cases h
  | pass =>
    simp only [evSU] at h
    cases h
    exact h0 s e
theorem evSU_fl {x : Exn} {ev : Ev} {S S' : Store} {su : SU} : ∀ {fl : Fl}, evSU x ev S su = .ok fl S' → match fl with | .bk _ => False ∧ False | .ct _ => False ∧ False | _ => True := by
  intro fl h
  cases su with
  | asg j se =>
    simp only [evSU] at h
    split at h
    · split at h <;> cases h
      trivial
    · cases h
  | ret se =>
    simp only [evSU] at h
    split at h <;> cases h
    trivial
  | pass =>
    simp only [evSU] at h
    cases h
    trivial
theorem SA.bad_elim {g0 g : Gh} {H0 : Hp} {D : Ends} (h : SA t W g0 H0 g .bad D) : False := h
/-- one clause -/
def chkHd (tb : Tab) (s : Sc) (h : Hd) : ExceptHandler → Bool
  | .ExceptHandler (some (.Name x _)) n [st] _ => (match tb.ex[h.c]? with | some (nm, _) => decide (nm = x) | none => false) && kindB s x .globalImplicit && !(x == ("__debug__" : Str)) && chkSU tb s h.as h.su st &&
      (match n, h.as with
        | none, none => true
        | some n, some i => (s.N[i]? == some n) && kindB s n .local
        | _, _ => false)
  | _ => false
theorem su_ne {as : Option Nat} {su : SU} {st : Stmt} (h : chkSU tb s as su st = true) {i : Nat} (e : as = some i) : ∀ j se, su = .asg j se → j ≠ i := fun j se hs z => by
  subst hs
  simp only [chkSU] at h
  split at h
  · simp only [Bool.and_eq_true, Bool.not_eq_true'] at h
    rw [e, z] at h
    simp at h
  · cases h
theorem ps_trX (c : Ctx t tb T C k W s X) (G : Glob t tb T C k) (ft : FnTop X) {kk : Bk} {fa : Den D} {body : List Stmt} {h : Hd} {hd : ExceptHandler} (hh : chkHd tb s h hd = true)
    (hb : ∀ (W' : WX) (pn : List (Addr × Obj)) (xe : Value → Shared → Prop), Ctx t tb T C k W' s (X.tr pn xe) → PSs (X.tr pn xe) body (fun D σ H => rdE t W' true fa σ H (fun v H1 => kNx t kk v σ H1 D))) :
    PS X (.Try body [hd] [] [] pos) (rdS t W (trDen kk fa [h])) := by
  unfold chkHd at hh
  split at hh
  case h_2 => cases hh
  rename_i x np n st hp
  simp only [Bool.and_eq_true, Bool.not_eq_true'] at hh
  obtain ⟨⟨⟨⟨h1, h2⟩, h3⟩, h4⟩, h5⟩ := hh
  cases zx : tb.ex[h.c]? with
  | none => rw [zx] at h1; cases h1
  | some q =>
    obtain ⟨nm, ns⟩ := q
    rw [zx] at h1
    simp only [decide_eq_true_eq] at h1
    subst h1
    obtain ⟨A, hA, hm, _⟩ := (G.ex _ _ _ zx).ex
    have hc : Names X nm (.ref A) := ⟨c.gl h2, h3, .inl (by rw [c.hg]; exact hm)⟩
    have cat : ∀ {g : Gh} {H : Hp} {x : Exn} {cls : Value} {d : Option Addr}, ExR t g H x cls d → PySem.W.exmOne X.K cls (.ref A) = some (catB x h) := fun {g H x cls d} ex => by
      obtain ⟨B, dx, xs, e1, e2, _⟩ := ex
      subst e1
      rw [c.hK]
      exact G.exm _ _ _ _ e2 hA
    cases zn : n with
    | none =>
      subst zn
      cases za : h.as with
      | some i => rw [za] at h5; cases h5
      | none =>
        refine PS.imp (ps_try_only (c := .ref A) (ts := fun a cls d => rdSU t W a cls d h.as h.su) ft.stk ft.frm hc c.tk (fun W' pn xe tk ow => hb W' pn xe (c.tr tk ow)) fun a oe cls d pn hz hf => pss_one (soundSU G c hz hf h.su st h4)) fun D σ H hr => ?_
        refine tr_rd hr fun g0 H0 ev S g x cls d H' b ex sa => ⟨_, cat ex, fun hb a ha => ?_, fun hb => ?_⟩
        · simp only [hdl, hb, if_true, za, asE] at sa
          exact ⟨g0, H0, ev, S, g, x, b, (fun i e => nomatch (za.symm.trans e)), ex, sa⟩
        · simp only [hdl, hb] at sa
          exact sa cls d σ H' g b.fr b.w ex
    | some n =>
      subst zn
      cases za : h.as with
      | none => rw [za] at h5; cases h5
      | some i =>
        rw [za] at h5
        simp only [Bool.and_eq_true] at h5
        have hi : X.N[i]? = some n := by rw [c.hN]; exact eq_of_beq h5.1
        have hln : X.env.kindOf n = some .local := by
          rcases c.kd n _ (eq_of_beq h5.2) with z | z
          · exact z
          · cases z.1
        refine PS.imp (ps_try_as (c := .ref A) (i := i) (ts := fun a cls d => rdSU t W a cls d h.as h.su) ft.stk ft.frm c.ndX hi hln hc c.tk (fun W' pn xe tk ow => hb W' pn xe (c.tr tk ow)) fun a oe cls d pn hz hf => pss_one (soundSU G c hz hf h.su st h4)) fun D σ H hr => ?_
        refine tr_rd hr fun g0 H0 ev S g x cls d H' b ex sa => ⟨_, cat ex, fun hb a ha => ?_, fun hb => ?_⟩
        · simp only [hdl, hb, if_true, za, asE] at sa
          refine ⟨g0, H0, ev.set i .no, S, g, x, b.no i _, fun j e hl => ?_, ex, ?_⟩
          · rw [za] at e; cases e
            rw [List.getElem?_set_self (by simpa using hl)]
          · cases zz : evSU x (ev.set i .no) S h.su with
            | bad => rw [zz] at sa; exact sa.elim
            | exc y S2 => rw [zz] at sa; exact sa
            | ok fl S2 =>
              rw [zz] at sa
              cases fl with
              | rt dd => exact sa
              | nx ev' =>
                intro σ' H2 g2 b2 l2
                have e1 := evSU_no zz (su_ne h4 za)
                have b3 := b2.no i none
                rw [e1] at b3
                exact sa _ _ _ b3 l2
              | bk ev' => exact (evSU_fl zz).1.elim
              | ct ev' => exact (evSU_fl zz).2.elim
        · simp only [hdl, hb] at sa
          exact sa cls d σ H' g b.fr b.w ex
end
end Mp

set_option Elab.async false
set_option linter.all false
set_option maxRecDepth 100000
set_option autoImplicit false
set_option maxHeartbeats 2000000
/-! try with several except clauses, each with a name -/
namespace Mp
open PySem PySem.Spec PyProof.Rows L2
abbrev HdW : Type := Value × Nat × (Addr → Value → Option Addr → TS)
/-- what the clauses wish, one behind the other -/
def wN (K : PySem.W.Frag) (Wo : WX) (D : Ends) : List HdW → WX
  | [] => Wo
  | h :: r => wAs K h.1 h.2.1 h.2.2 (wN K Wo D r) D
inductive HdsN (X : Cx) : List ExceptHandler → List HdW → Prop
  | nil : HdsN X [] []
  | cons {x n : Str} {c : Value} {i : Nat} {ts : Addr → Value → Option Addr → TS} {st : Stmt} {more : List Stmt} {np hp : Pos} {hs : List ExceptHandler} {l : List HdW} (nm : Names X x c) (at' : X.N[i]? = some n) (lo : X.env.kindOf n = some .local)
      (su : ∀ (a : Addr) (o : Obj) (cls : Value) (d : Option Addr) (pn : List (Addr × Obj)), Zc cls d o → (∃ vs, o.data = .fields vs) → PSs (X.suite a ((a, o) :: pn)) (st :: more) (ts a cls d)) (r : HdsN X hs l) :
      HdsN X (.ExceptHandler (some (.Name x np)) (some n) (st :: more) hp :: hs) ((c, i, ts) :: l)
section
variable {X : Cx} {body : List Stmt} {h0 : ExceptHandler} {hs : List ExceptHandler} {l : List HdW} {pos : Pos} {tb : WX → TS} {Wo : WX}
theorem ps_tryN (e1 : X.stack = X.env :: X.outer) (e2 : X.env.frame = some X.env.locals) (nd : X.N.Nodup) (tk : Takes X Wo)
    (hb : ∀ (W : WX) (pn : List (Addr × Obj)) (xe : Value → Shared → Prop), Takes (X.tr pn xe) W → PassesOwn (model X.prog X.w) X.A X.env xe → PSs (X.tr pn xe) body (tb W))
    (hh : HdsN X (h0 :: hs) l) : PS X (.Try body (h0 :: hs) [] [] pos) (fun D σ H => tb (wN X.K Wo D l) D σ H) := by
  refine ⟨fun pins s σ H D I start => ?_⟩
  have okX := I.ok
  have frX : X.A.frames = some (X.env :: X.outer) := okX.frames.trans (by rw [e1])
  refine wpAny_Try_except ?_
  refine wpAny_mono ((hb (wN X.K Wo D l) (X.pn ++ pins) (fun e sa => wpAny (model X.prog X.w) X.A (noteFrame e X.env) (fun _ sb => wpAny (model X.prog X.w) X.A (setFlight e none) (fun _ sc =>
    wpAny (model X.prog X.w) X.A (handleBy e X.env (h0 :: hs)) (SP X pins D) X.xe sc) X.xe sb) X.xe sa) (fun u sx caught => ?_) PassesOwn.looking).run [] s σ H D (I.toTry _) start) (fun fl se done => ?_) (fun _ _ z => z)
  · obtain ⟨a, B, sI, pi, τ, K', cls, d, rfl, J0, nb, up, sky, na, os, ag, wish⟩ := caught
    have J : Inv X pins τ K' sI := J0.ofTry okX
    show wpAny (model X.prog X.w) X.A (noteFrame (.ref a) X.env) _ _ _
    refine Sky.land Zc.steady frX e2 (by rw [← e1]; exact sky) fun ha fa upa => ?_
    have Ja : Inv X pins τ K' { sx with heap := ha } := J.landed nb fa.1 (up.trans upa) os ag
    obtain ⟨oa, va, hea, hza, hda⟩ := fa.there
    have nfr : a ∉ frs (X.env :: X.outer) := fun hm => by
      obtain ⟨_, o2, hoe, hnf⟩ := fa.2.2.1.mem hm
      rw [hea] at hoe
      cases hoe
      exact hnf _ hda
    have nL : a ≠ X.env.locals := fun z => nfr (List.mem_filterMap.mpr ⟨X.env, .head _, by rw [e2, z]⟩)
    have nF : a ∉ X.fs := fun hm => by
      obtain ⟨en, hen, qen⟩ := List.mem_filterMap.mp hm
      exact nfr (List.mem_filterMap.mpr ⟨en, .tail _ hen, qen⟩)
    have Sa := Ja.suite hea hda na nL nF
    have go : ∀ {hs' : List ExceptHandler} {l' : List HdW}, HdsN X hs' l' → wN X.K Wo D l' cls d τ K' → wpAny (model X.prog X.w) X.A (handleBy (.ref a) X.env hs') (SP X pins D) X.xe { sx with heap := ha } := by
      intro hs' l' hk
      induction hk with
      | nil =>
        intro wish
        refine wpAny_handleBy_nil ?_
        obtain ⟨_, _, _, oe, vs, T, oT, ts', he, hz, hd, hv1, _⟩ := id fa
        unfold PySem.passOn
        refine wpAny_bind (wpAny_field he hd hv1 ?_)
        rw [if_neg (by simp : ¬ ((Value.ref T == Value.none) = true))]
        have out : wpAny (model X.prog X.w) X.A (setFlight (.ref a) X.env.frame) (fun _ sd => wpAny (model X.prog X.w) X.A (throw (.ref a) : Sem Flow) (SP X pins D) X.xe sd) X.xe { sx with heap := ha } := by
          rw [e2]
          exact HandSPX.setFlight_upZ fa fun hb hhb upb => wpAny_throw (tk _ _ ⟨a, B, sI, pins, τ, K', cls, d, rfl, J, nb, (up.trans upa).trans upb, .inr (.inr (by rw [e1]; exact hhb)), na, os, ag, wish⟩)
        first
          | exact wpAny_bind (wpAny_pure (wpAny_bind out))
          | exact wpAny_bind out
      | @cons x n c i ts st more np hp hs2 l2 nm at' lo su r ih =>
        rintro ⟨b, hcls, hyes, hno⟩
        refine wpAny_handleBy_cons (codeAny_handlers_test ?_) (by intro q; cases q)
        have LT : PySem.W.Looks (model X.prog X.w) ha (typeOf (.ref a)) cls := fun A Q E s kk q => wpAny_typeOf_ref (kk _ _ hea) (by rw [hza.1]; exact q)
        have LM := PySem.W.exm_one (M := model X.prog X.w) (Ja.kIn) LT hcls
        have asked : ∀ {Q E : Value → Shared → Prop}, Q c { sx with heap := ha } → wpAny (model X.prog X.w) (X.A.mark (some (.ref a))) (eval (.Name x np) X.env) Q E { sx with heap := ha } := fun {Q E} q => by
          rcases nm with ⟨hg, hdb, hm | ⟨hm, hv, hnn⟩⟩
          · exact ld_glob (X := X.suite a ((a, oa) :: (X.pn ++ pins))) Sa hg hm q hdb
          · exact ld_blt (X := X.suite a ((a, oa) :: (X.pn ++ pins))) Sa hg hm hv q hnn hdb
        refine asked (LM.here ?_)
        cases b with
        | false => exact ih (hno rfl)
        | true =>
          refine codeAny_handlers_suite_as (HandSPX.lands_againZ fa fun hb fb upb => ?_)
          have Jb : Inv X pins τ K' { sx with heap := hb } := J.landed nb fb.1 ((up.trans upa).trans upb) os ag
          obtain ⟨ob, vb, heb, hzb, hdb⟩ := fb.there
          have Sb := Jb.suite heb hdb na nL nF
          refine store_ok (X := X.suite a ((a, ob) :: (X.pn ++ pins))) (v := .ref a) Sb nd at' (.inl lo) rfl (fun s5 S5 => ?_) (.inr lo)
          refine wpAny_mono ((su a ob cls d (X.pn ++ pins) hzb ⟨_, hdb⟩).run [] s5 _ K' _ S5 (hyes rfl a na)) (fun f6 s6 h6 => ?_) (fun _ _ z => z.elim)
          have close : ∀ {τ6 : L2.St} {K6 : Hp} {Q : Shared → Prop}, Inv (X.suite a ((a, ob) :: (X.pn ++ pins))) [] τ6 K6 s6 → (∀ s7, Inv X pins (τ6.set i none) K6 s7 → Q s7) → wpAny (model X.prog X.w) X.A (do bindName X.env n .none; unbindBehindTheSuite X.env n hp) (fun _ s7 => Q s7) X.xe s6 :=
            fun {τ6 K6 Q} S6 hq => gone_ok (S6.unsuite okX) nd at' lo hq
          cases f6 with
          | ret u =>
            obtain ⟨v6, τ6, K6, S6, r6, q6⟩ := h6
            exact close S6 fun s7 J7 => ⟨v6, _, _, J7, r6, q6⟩
          | next =>
            obtain ⟨τ6, K6, S6, q6⟩ := h6
            exact close S6 fun s7 J7 => ⟨_, K6, J7, q6⟩
          | brk =>
            obtain ⟨τ6, K6, S6, q6⟩ := h6
            exact close S6 fun s7 J7 => ⟨_, K6, J7, q6⟩
          | cont =>
            obtain ⟨τ6, K6, S6, q6⟩ := h6
            exact close S6 fun s7 J7 => ⟨_, K6, J7, q6⟩
    exact go hh wish
  · cases fl with
    | ret u =>
      obtain ⟨v, τ, K', J0, rv, q⟩ := done
      exact ⟨v, τ, K', J0.ofTry okX, rv, q⟩
    | next =>
      obtain ⟨τ, K', J0, q⟩ := done
      exact wpAny_execs_nil ⟨τ, K', J0.ofTry okX, q⟩
    | brk =>
      obtain ⟨τ, K', J0, q⟩ := done
      exact ⟨τ, K', J0.ofTry okX, q⟩
    | cont =>
      obtain ⟨τ, K', J0, q⟩ := done
      exact ⟨τ, K', J0.ofTry okX, q⟩
end
/-! ### in the small language -/
section
variable {t : Tp} {tb : Tab} {T : Top} {C : Cl} {k : Nat} {W : WX} {s : Sc} {X : Cx} {pos : Pos}
def chkHds (tb : Tab) (s : Sc) : List Hd → List ExceptHandler → Bool
  | [], [] => true
  | h :: r, e :: q => chkHd tb s h e && h.as.isSome && chkHds tb s r q
  | _, _ => false
/-- the clauses, read -/
theorem hds_of (c : Ctx t tb T C k W s X) (G : Glob t tb T C k) : ∀ (hs : List Hd) (es : List ExceptHandler), chkHds tb s hs es = true → ∃ l : List HdW, HdsN X es l ∧
    ∀ (D : Ends) (g0 : Gh) (H0 : Hp) (ev : Ev) (S : Store) (g : Gh) (σ : L2.St) (x : Exn) (cls : Value) (d : Option Addr) (H2 : Hp), SB t g0 H0 ev S g σ H2 → ExR t g H2 x cls d → SA t W g0 H0 g (hdl hs x ev S) D → wN X.K W D l cls d σ H2
  | [], [], _ => ⟨[], .nil, fun D g0 H0 ev S g σ x cls d H2 b ex sa => sa cls d σ H2 g b.fr b.w ex⟩
  | [], _ :: _, h => by simp [chkHds] at h
  | _ :: _, [], h => by simp [chkHds] at h
  | h :: r, e :: q, hc => by
    simp only [chkHds, Bool.and_eq_true] at hc
    obtain ⟨⟨hh, hsome⟩, hr⟩ := hc
    obtain ⟨l, hl, rd⟩ := hds_of c G r q hr
    unfold chkHd at hh
    split at hh
    case h_2 => cases hh
    rename_i x0 np n st hp
    simp only [Bool.and_eq_true, Bool.not_eq_true'] at hh
    obtain ⟨⟨⟨⟨h1, h2⟩, h3⟩, h4⟩, h5⟩ := hh
    cases zx : tb.ex[h.c]? with
    | none => rw [zx] at h1; cases h1
    | some pq =>
      obtain ⟨nm, ns⟩ := pq
      rw [zx] at h1
      simp only [decide_eq_true_eq] at h1
      subst h1
      obtain ⟨A, hA, hm, _⟩ := (G.ex _ _ _ zx).ex
      have hN : Names X nm (.ref A) := ⟨c.gl h2, h3, .inl (by rw [c.hg]; exact hm)⟩
      obtain ⟨i, za⟩ := Option.isSome_iff_exists.mp hsome
      cases zn : n with
      | none => subst zn; rw [za] at h5; cases h5
      | some n =>
        subst zn
        rw [za] at h5
        simp only [Bool.and_eq_true] at h5
        have hi : X.N[i]? = some n := by rw [c.hN]; exact eq_of_beq h5.1
        have hln : X.env.kindOf n = some .local := by
          rcases c.kd n _ (eq_of_beq h5.2) with z | z
          · exact z
          · cases z.1
        refine ⟨(.ref A, i, fun a cls d => rdSU t W a cls d h.as h.su) :: l, .cons hN hi hln (fun a oe cls d pn hz hf => pss_one (soundSU G c hz hf h.su st h4)) hl, fun D g0 H0 ev S g σ x cls d H2 b ex sa => ?_⟩
        have cat : PySem.W.exmOne X.K cls (.ref A) = some (catB x h) := by
          obtain ⟨B, dx, xs, q1, q2, _⟩ := ex
          subst q1
          rw [c.hK]
          exact G.exm _ _ _ _ q2 hA
        refine ⟨_, cat, fun hb a ha => ?_, fun hb => ?_⟩
        · simp only [hdl, hb, if_true, za, asE] at sa
          refine ⟨g0, H0, ev.set i .no, S, g, x, b.no i _, fun j e hl => ?_, ex, ?_⟩
          · rw [za] at e; cases e
            rw [List.getElem?_set_self (by simpa using hl)]
          · cases zz : evSU x (ev.set i .no) S h.su with
            | bad => rw [zz] at sa; exact sa.elim
            | exc y S2 => rw [zz] at sa; exact sa
            | ok fl S2 =>
              rw [zz] at sa
              cases fl with
              | rt dd => exact sa
              | nx ev' =>
                intro σ2 H3 g2 b2 l2
                have q1 := evSU_no zz (su_ne h4 za)
                have b3 := b2.no i none
                rw [q1] at b3
                exact sa _ _ _ b3 l2
              | bk ev' => exact (evSU_fl zz).1.elim
              | ct ev' => exact (evSU_fl zz).2.elim
        · simp only [hdl, hb] at sa
          exact rd D g0 H0 ev S g σ x cls d H2 b ex sa
theorem ps_trN (c : Ctx t tb T C k W s X) (G : Glob t tb T C k) (ft : FnTop X) {kk : Bk} {fa : Den D} {body : List Stmt} {hs : List Hd} {e0 : ExceptHandler} {es : List ExceptHandler} (hh : chkHds tb s hs (e0 :: es) = true)
    (hb : ∀ (W' : WX) (pn : List (Addr × Obj)) (xe : Value → Shared → Prop), Ctx t tb T C k W' s (X.tr pn xe) → PSs (X.tr pn xe) body (fun D σ H => rdE t W' true fa σ H (fun v H1 => kNx t kk v σ H1 D))) :
    PS X (.Try body (e0 :: es) [] [] pos) (rdS t W (trDen kk fa hs)) := by
  obtain ⟨l, hl, rd⟩ := hds_of c G hs _ hh
  refine PS.imp (ps_tryN ft.stk ft.frm c.ndX c.tk (fun W' pn xe tk ow => hb W' pn xe (c.tr tk ow)) hl) fun D σ H hr => ?_
  exact tr_rd hr fun g0 H0 ev S g x cls d H2 b ex sa => rd D g0 H0 ev S g σ x cls d H2 b ex sa
def chkHdl (tb : Tab) (s : Sc) (hs : List Hd) : List ExceptHandler → Bool
  | [hd] => match hs with
    | [h] => chkHd tb s h hd
    | _ => false
  | e0 :: e1 :: es => chkHds tb s hs (e0 :: e1 :: es)
  | _ => false
theorem ps_trL (c : Ctx t tb T C k W s X) (G : Glob t tb T C k) (ft : FnTop X) {kk : Bk} {fa : Den D} {body : List Stmt} {hs : List Hd} {es : List ExceptHandler} (hh : chkHdl tb s hs es = true)
    (hb : ∀ (W' : WX) (pn : List (Addr × Obj)) (xe : Value → Shared → Prop), Ctx t tb T C k W' s (X.tr pn xe) → PSs (X.tr pn xe) body (fun D σ H => rdE t W' true fa σ H (fun v H1 => kNx t kk v σ H1 D))) :
    PS X (.Try body es [] [] pos) (rdS t W (trDen kk fa hs)) := by
  unfold chkHdl at hh
  split at hh
  · split at hh
    · exact ps_trX c G ft hh hb
    · cases hh
  · exact ps_trN c G ft hh hb
  · cases hh
end
end Mp

set_option Elab.async false
set_option linter.all false
set_option maxRecDepth 100000
set_option autoImplicit false
set_option maxHeartbeats 2000000
namespace Mp
open PySem PySem.Spec L2
section
variable {X : Cx} {t : Tp} {W : WX} {pos : Pos}
def forB (tg : Tg) (fb : Den Fl) : D → Ev → Store → Out Fl := fun d ev1 S2 => match setT tg d ev1 with
  | some ev2 => fb ev2 S2
  | none => .bad
def forDen (tg : Tg) (fi : Den (List D × Gd)) (fb : Den Fl) : Den Fl := fun ev S => (fi ev S).bind fun q S1 => goFor q.2 (forB tg fb) q.1 ev S1
theorem goFor_guard {gd : Gd} {f : D → Ev → Store → Out Fl} {l : List D} {ev : Ev} {S : Store} (h : gdB gd S = false) : goFor gd f l ev S = .bad := by
  cases l <;> simp only [goFor, h] <;> rfl
theorem for_rd {tg : Tg} {fi : Den (List D × Gd)} {fb : Den Fl} {D : Ends} {σ : St} {H : Hp} (h : rdS t W (forDen tg fi fb) D σ H) : tFor (rdI t W fi) (gX t tg) (rdS t W fb) D σ H := by
  obtain ⟨g0, H0, ev, S, g, b, h⟩ := h
  unfold forDen at h
  refine ⟨ev, S, g, b.sl, b.w, (SA.bindE (R1 := ItR t) b h).mono fun J H1 hh => ?_⟩
  obtain ⟨⟨l, gd⟩, S1, g1, b1, f1, it, h1⟩ := hh
  dsimp only at it h1
  refine ⟨fun i m σ' Hc => ∃ ev' S' g', i + m = l.length ∧ SB t g0 H0 ev' S' g' σ' Hc ∧ Le g1 g' ∧ SA t W g0 H0 g' (goFor gd (forB tg fb) (l.drop i) ev' S') D, ⟨l.length, ev, S1, g1, by omega, b1, Le.refl g1, by simpa using h1⟩, ?_⟩
  rintro i m σ' Hc ⟨ev', S', g', him, b', le, ha⟩
  have hgd : gdB gd S' = true := by
    cases z : gdB gd S' with
    | true => rfl
    | false => rw [goFor_guard z] at ha; exact ha.elim
  obtain ⟨it1, it2⟩ := it i g' Hc S' le b'.w hgd
  dsimp only at it1 it2
  cases hd : l.drop i with
  | nil =>
    left
    rw [hd] at ha
    simp only [goFor, hgd, if_true] at ha
    exact ⟨it2 (List.drop_eq_nil_iff.mp hd), ha σ' Hc g' b' (Le.refl g')⟩
  | cons d r =>
    right
    have hdi : l[i]? = some d := by
      have : (l.drop i)[0]? = some d := by rw [hd]; rfl
      rw [List.getElem?_drop] at this
      simpa using this
    have hdr : l.drop (i + 1) = r := by
      have : (l.drop i).drop 1 = r := by rw [hd]; rfl
      rw [List.drop_drop] at this
      exact this
    have hil : i < l.length := (List.getElem?_eq_some_iff.mp hdi).1
    obtain ⟨go, yl⟩ := it1 d hdi
    refine ⟨go, _, fun σ2 H' hN => ⟨m - 1, by omega, hN⟩, fun x H' hy => ?_⟩
    obtain ⟨g2, f2, w2, rx⟩ := yl x H' hy
    have b2 := b'.step f2 w2
    rw [hd] at ha
    simp only [goFor, hgd, if_true, forB] at ha
    cases z : setT tg d ev' with
    | none => rw [z] at ha; exact ha.elim
    | some ev2 =>
      rw [z] at ha
      refine ⟨ev', S', g2, d, ev2, b2.sl, b2.w, rx, z, fun σ3 s3 o3 => ?_⟩
      have b3 := b2.setT z s3 o3
      refine ⟨g0, H0, ev2, S', g2, b3, ?_⟩
      have ha2 := SA.shift f2.le ha
      have le2 : Le g1 g2 := le.trans f2.le
      dsimp only at ha2
      cases q : fb ev2 S' with
      | ok fl S3 =>
        rw [q, Out.bind_ok] at ha2
        cases fl with
        | nx ev3 => exact fun σ4 H4 g4 b4 l4 => ⟨ev3, S3, g4, by omega, b4, le2.trans l4, by rw [hdr]; exact SA.shift l4 ha2⟩
        | ct ev3 => exact fun σ4 H4 g4 b4 l4 => ⟨ev3, S3, g4, by omega, b4, le2.trans l4, by rw [hdr]; exact SA.shift l4 ha2⟩
        | bk ev3 => exact ha2
        | rt d3 => exact ha2
      | exc e S3 => rw [q] at ha2; exact ha2
      | bad => rw [q] at ha2; exact ha2
theorem ps_forX {tg : Tg} {tgE iter : Expr} {body : List Stmt} {fi : Den (List D × Gd)} {fb : Den Fl} (hp : PassesOwn (model X.prog X.w) X.A X.env X.xe) (hc : X.calm = true) (hi : PI X tgE iter (rdI t W fi)) (hg : PG X tgE (gX t tg)) (hb : PSs X body (rdS t W fb)) (hs : ∀ x, foldedSetIterable iter X.env x = pure x) :
    PS X (.For tgE iter body [] pos) (rdS t W (forDen tg fi fb)) := PS.imp (ps_for hp hc hi hg hb hs) fun D σ H h => for_rd h
def whDen (fc : Den Bool) (fb : Den Fl) (n : Nat) : Den Fl := fun ev S => goWh fc fb n ev S
theorem ps_whX {c : Expr} {body : List Stmt} {fc : Den Bool} {fb : Den Fl} {n : Nat} (hp : PassesOwn (model X.prog X.w) X.A X.env X.xe) (hc : PT X c (rdT t W fc)) (hb : PSs X body (rdS t W fb)) : PS X (.While c body [] pos) (rdS t W (whDen fc fb n)) := by
  refine PS.imp (ps_while hp hc hb) fun D σ H h => ?_
  obtain ⟨g0, H0, ev, S, g, b, h⟩ := h
  refine ⟨fun m σ' H' => ∃ ev' S' g', SB t g0 H0 ev' S' g' σ' H' ∧ SA t W g0 H0 g' (goWh fc fb m ev' S') D, ⟨n, ev, S, g, b, h⟩, ?_⟩
  rintro m σ' H' ⟨ev', S', g', b', ha⟩
  cases m with
  | zero => simp only [goWh] at ha; exact ha.elim
  | succ m =>
    simp only [goWh] at ha
    refine ⟨ev', S', g', b'.sl, b'.w, (SA.bindE (R1 := RepT) b' ha).mono fun k H1 hh => ?_⟩
    obtain ⟨k', S1, g1, b1, f1, r1, h1⟩ := hh
    cases (show k' = k from r1)
    cases k with
    | false => rw [if_neg (by decide)] at h1 ⊢; exact h1 σ' H1 g1 b1 (Le.refl g1)
    | true =>
      rw [if_pos rfl] at h1 ⊢
      refine ⟨_, fun σ2 H2 hN => ⟨m, Nat.lt_succ_self m, hN⟩, g0, H0, ev', S1, g1, b1, ?_⟩
      cases q : fb ev' S1 with
      | ok fl S3 =>
        rw [q, Out.bind_ok] at h1
        cases fl with
        | nx ev3 => exact fun σ4 H4 g4 b4 l4 => ⟨ev3, S3, g4, b4, SA.shift l4 h1⟩
        | ct ev3 => exact fun σ4 H4 g4 b4 l4 => ⟨ev3, S3, g4, b4, SA.shift l4 h1⟩
        | bk ev3 => exact h1
        | rt d3 => exact h1
      | exc e S3 => rw [q] at h1; exact h1
      | bad => rw [q] at h1; exact h1
/-- what a name holds is frozen -/
theorem PS.frz {st : Stmt} {f : Den Fl} (is : List Nat) (h : PS X st (rdS t W f)) : PS X st (rdS t W fun ev S => f (frzE ev is) S) := by
  refine PS.imp h fun D σ H h => ?_
  obtain ⟨g0, H0, ev, S, g, b, h⟩ := h
  obtain ⟨g', b', l'⟩ := b.frz is
  exact ⟨g0, H0, frzE ev is, S, g', b', SA.shift l' h⟩
/-- a, b = x, y: stored one by one, no tuple is seen -/
def parDen (is : List Nat) (fs : Den (List D)) : Den Fl := fun ev S => (fs ev S).bind fun l S1 => if lineB l.length then (match setTs (is.map Tg.nm) l ev with | some ev1 => .ok (.nx ev1) S1 | none => .bad) else .bad
theorem set2 {ev : Ev} {i j : Nat} {x y : D} {ev2 : Ev} (h : setTs [.nm i, .nm j] [x, y] ev = some ev2) : i < ev.length ∧ j < ev.length ∧ ev2 = (ev.set i (.va x)).set j (.va y) := by
  simp only [setTs, setT] at h
  split at h
  · rename_i ev1 h1
    split at h1
    · rename_i hi
      cases h1
      split at h
      · rename_i ev3 h3
        split at h3
        · rename_i hj
          cases h3; cases h
          exact ⟨hi, by simpa using hj, rfl⟩
        · cases h3
      · cases h
    · cases h1
  · cases h
theorem ps_par2X {i j : Nat} {x y : Str} {a b : Expr} {bs : List Bool} {fs : Den (List D)} {px py pt : Pos} {kt k2 : Nat} {pt2 : Pos} (hc : X.calm = true) (hN : X.N.Nodup) (hi : X.N[i]? = some x) (hj : X.N[j]? = some y) (hij : i ≠ j)
    (hx : X.env.scope.names.lookup x = some .local) (hy : X.env.scope.names.lookup y = some .local) (hb : bs = [true, true]) (ha : PA X [a, b] (rdA t W bs fs))
    (hw : swappedStores [.Tuple [.Name x px, .Name y py] kt pt] (.Tuple [a, b] k2 pt2) X.env = pure (some [x, y])) :
    PS X (.Assign [.Tuple [.Name x px, .Name y py] kt pt] (.Tuple [a, b] k2 pt2) pos) (rdS t W (parDen [i, j] fs)) := by
  subst hb
  refine PS.imp (ps_par hc hN hi hj hij hx hy ha hw rfl) fun D σ H h => ?_
  obtain ⟨ev, S, g, sl, w, h⟩ := rdS_bind (R1 := fun H g ds xs => RepsX t H g [true, true] ds xs) h
  refine ⟨ev, S, g, sl, w, h.mono fun v H1 hh => ?_⟩
  obtain ⟨g0, H0, ev, S1, g1, l, b1, r1, h1⟩ := hh
  split at h1
  · match l, v, r1 with
    | [d1, d2], [v1, v2], r1 =>
      cases z : setTs ([i, j].map Tg.nm) [d1, d2] ev with
      | none => rw [z] at h1; exact h1.elim
      | some ev2 =>
        rw [z] at h1
        obtain ⟨l1, l2, rfl⟩ := set2 z
        refine ⟨v1, v2, rfl, h1 _ H1 g1 ?_ (Le.refl g1)⟩
        have s1 := b1.sl.setV l1 r1.1.str
        have s2 := s1.setV (i := j) (d := d2) (v := v2) (by simpa using l2) r1.2.1.str
        refine (b1.setT (tg := .tp [.nm i, .nm j]) (d := .tup [d1, d2]) (by simpa only [setT, List.map] using z) s2 ⟨by simp, fun q hq => ?_⟩)
        simp only [slotsT, slotsTs, List.append_nil, List.mem_append, List.mem_singleton, not_or] at hq
        rw [List.getElem?_set_ne (Ne.symm hq.2), List.getElem?_set_ne (Ne.symm hq.1)]
    | [], _, r1 => exact r1.elim
    | [_], [], r1 => exact r1.elim
    | [_], _ :: _, r1 => exact r1.2.elim
    | _ :: _ :: _, [], r1 => exact r1.elim
    | _ :: _ :: _, [_], r1 => exact r1.2.elim
    | _ :: _ :: _ :: _, _ :: _ :: _, r1 => exact r1.2.2.elim
    | [_, _], _ :: _ :: _ :: _, r1 => exact r1.2.2.elim
  · exact h1.elim
theorem set3 {ev : Ev} {i j k : Nat} {x y z : D} {ev2 : Ev} (h : setTs [.nm i, .nm j, .nm k] [x, y, z] ev = some ev2) : i < ev.length ∧ j < ev.length ∧ k < ev.length ∧ ev2 = ((ev.set i (.va x)).set j (.va y)).set k (.va z) := by
  simp only [setTs, setT] at h
  by_cases hi : i < ev.length <;> by_cases hj : j < ev.length <;> by_cases hk : k < ev.length <;> simp [hi, hj, hk] at h
  exact ⟨hi, hj, hk, h.symm⟩
theorem ps_par3X {i j k : Nat} {x y z : Str} {a b c : Expr} {bs : List Bool} {fs : Den (List D)} {px py pz pt : Pos} {kt k2 : Nat} {pt2 : Pos} (hc : X.calm = true) (hN : X.N.Nodup) (hi : X.N[i]? = some x) (hj : X.N[j]? = some y) (hk : X.N[k]? = some z) (hij : i ≠ j) (hik : i ≠ k) (hjk : j ≠ k)
    (hx : X.env.scope.names.lookup x = some .local) (hy : X.env.scope.names.lookup y = some .local) (hz : X.env.scope.names.lookup z = some .local) (hb : bs = [true, true, true]) (ha : PA X [a, b, c] (rdA t W bs fs))
    (hw : swappedStores [.Tuple [.Name x px, .Name y py, .Name z pz] kt pt] (.Tuple [a, b, c] k2 pt2) X.env = pure (some [x, y, z])) :
    PS X (.Assign [.Tuple [.Name x px, .Name y py, .Name z pz] kt pt] (.Tuple [a, b, c] k2 pt2) pos) (rdS t W (parDen [i, j, k] fs)) := by
  subst hb
  refine PS.imp (ps_par3 hc hN hi hj hk hij hik hjk hx hy hz ha hw rfl) fun D σ H h => ?_
  obtain ⟨ev, S, g, sl, w, h⟩ := rdS_bind (R1 := fun H g ds xs => RepsX t H g [true, true, true] ds xs) h
  refine ⟨ev, S, g, sl, w, h.mono fun v H1 hh => ?_⟩
  obtain ⟨g0, H0, ev, S1, g1, l, b1, r1, h1⟩ := hh
  split at h1
  · obtain ⟨q1, q2⟩ := RepsX.len r1
    match l, v, r1, q1, q2 with
    | [d1, d2, d3], [v1, v2, v3], r1, _, _ =>
      cases z : setTs ([i, j, k].map Tg.nm) [d1, d2, d3] ev with
      | none => rw [z] at h1; exact h1.elim
      | some ev2 =>
        rw [z] at h1
        obtain ⟨l1, l2, l3, rfl⟩ := set3 z
        refine ⟨v1, v2, v3, rfl, h1 _ H1 g1 ?_ (Le.refl g1)⟩
        have s1 := b1.sl.setV l1 r1.1.str
        have s2 := s1.setV (i := j) (d := d2) (v := v2) (by simpa using l2) r1.2.1.str
        have s3 := s2.setV (i := k) (d := d3) (v := v3) (by simpa using l3) r1.2.2.1.str
        refine (b1.setT (tg := .tp [.nm i, .nm j, .nm k]) (d := .tup [d1, d2, d3]) (by simpa only [setT, List.map] using z) s3 ⟨by simp, fun q hq => ?_⟩)
        simp only [slotsT, slotsTs, List.append_nil, List.mem_append, List.mem_singleton, not_or] at hq
        rw [List.getElem?_set_ne (Ne.symm hq.2.2), List.getElem?_set_ne (Ne.symm hq.2.1), List.getElem?_set_ne (Ne.symm hq.1)]
  · exact h1.elim
end
end Mp

set_option Elab.async false
set_option linter.all false
set_option maxRecDepth 100000
set_option autoImplicit false
set_option maxHeartbeats 4000000
namespace Mp
open PySem PySem.Spec L2
/-! ### the checker of statements -/
def noComp : Expr → Bool
  | .ListComp .. => false
  | .SetComp .. => false
  | .DictComp .. => false
  | _ => true
theorem swaps_no {e : Expr} {tg : Option Expr} {n : Nat} {env : Env} (h : noComp e = true) : swapsWith e tg n env = pure false := by
  cases e <;> first | rfl | (simp only [noComp] at h; cases h)
def nmCell (s : Sc) : Expr → Bool
  | .Name x _ => kindB s x .cell
  | _ => false
/-- the tuple is made and taken apart -/
def noSwapB (s : Sc) : Expr → Expr → Bool
  | .Tuple ts _ _, .Tuple vs _ _ => !(ts.length == 2 || ts.length == 3) || ts.any (nmCell s) || vs.all (foldedForSure 8)
  | .List _ _, _ => false
  | _, _ => true
def isStar : Expr → Bool
  | .Starred .. => true
  | _ => false
theorem filterMap_lt {α β : Type} {f : α → Option β} : ∀ {l : List α}, (∃ x ∈ l, f x = none) → (l.filterMap f).length < l.length
  | [], h => by obtain ⟨x, hx, _⟩ := h; cases hx
  | a :: l, h => by
    obtain ⟨x, hx, e⟩ := h
    rw [List.filterMap_cons]
    rcases List.mem_cons.mp hx with z | z
    · subst z
      rw [e]
      exact Nat.lt_succ_of_le (List.length_filterMap_le _ _)
    · have := filterMap_lt (f := f) ⟨x, z, e⟩
      cases f a with
      | none => exact Nat.lt_succ_of_lt this
      | some b => simpa using this
section
variable {t : Tp} {tb : Tab} {T : Top} {C : Cl} {k : Nat} {W : WX} {s : Sc} {X : Cx}
theorem Ctx.blockKind (c : Ctx t tb T C k W s X) : X.env.blockKind = .function := by
  unfold Env.blockKind
  rw [c.sk]; rfl
theorem Ctx.cellX (c : Ctx t tb T C k W s X) {x : Str} (h : kindB s x .cell = true) : X.env.kindOf x = some .cell := by
  rcases c.kd x _ (eq_of_beq h) with z | z
  · exact z
  · cases z.1
theorem Ctx.localX (c : Ctx t tb T C k W s X) {x : Str} (h : kindB s x .local = true) : X.env.kindOf x = some .local := by
  rcases c.kd x _ (eq_of_beq h) with z | z
  · exact z
  · cases z.1
theorem swapped_none (c : Ctx t tb T C k W s X) {tg e : Expr} (h : noSwapB s tg e = true) : swappedStores [tg] e X.env = pure none := by
  unfold noSwapB at h
  split at h
  · rename_i ts k1 p1 vs k2 p2
    unfold swappedStores
    simp only [c.blockKind]
    simp only [Bool.or_eq_true, Bool.not_eq_true'] at h
    split
    · rfl
    · rename_i hc
      split
      · rfl
      · rcases h with (h | h) | h
        · exfalso; apply hc; simp only [h]; rfl
        · obtain ⟨x, hx, hn⟩ := List.any_eq_true.mp h
          have lt : (ts.filterMap fun | .Name id pos => if X.env.kindOf id == some .local && pos.line == (ts.head?.map (·.pos.line)).getD 0 then some id else none | _ => none).length < ts.length := by
            refine filterMap_lt ⟨x, hx, ?_⟩
            cases x with
            | Name id pos =>
              have := c.cellX hn
              simp only [this]
              rfl
            | _ => simp only [nmCell] at hn; cases hn
          rw [if_pos]
          simp only [Bool.or_eq_true, bne_iff_ne, ne_eq]
          left
          exact Nat.ne_of_lt lt
        · split
          · rfl
          · rfl
  · cases h
  · rename_i h2 h1
    cases tg with
    | Tuple ts kk pp =>
      cases e with
      | Tuple vs k2 p2 => exact (h1 _ _ _ _ _ _ rfl rfl).elim
      | _ => rfl
    | List ts pp => exact (h2 _ _ rfl).elim
    | _ => rfl
end
end Mp

set_option Elab.async false
set_option linter.all false
set_option maxRecDepth 100000
set_option autoImplicit false
set_option maxHeartbeats 4000000
namespace Mp
open PySem PySem.Spec L2
section
variable {t : Tp} {tb : Tab} {T : Top} {C : Cl} {k : Nat} {W : WX} {s : Sc} {X : Cx}
theorem swapped2 (c : Ctx t tb T C k W s X) {x y : Str} {px py pt pv : Pos} {kt kv : Nat} {a b : Expr} (hx : kindB s x .local = true) (hy : kindB s y .local = true) (hl : (py.line == px.line) = true) (hn : x ≠ y) (ha : isStar a = false) (hb : isStar b = false)
    (hf : ([a, b].all (foldedForSure 8)) = false) (hc : ([a, b].all (constantsAlone 8)) = false) : swappedStores [.Tuple [.Name x px, .Name y py] kt pt] (.Tuple [a, b] kv pv) X.env = pure (some [x, y]) := by
  have e1 := c.localX hx
  have e2 := c.localX hy
  have hq : ([x, y].eraseDups.length != [x, y].length) = false := by
    have e : [x, y].eraseDups = [x, y] := by
      have nb : (y == x) = false := by simpa using Ne.symm hn
      simp [List.eraseDups_cons, nb]
    rw [e]; rfl
  unfold swappedStores
  have h0 : (!([Expr.Name x px, Expr.Name y py].length == 2 || [Expr.Name x px, Expr.Name y py].length == 3) || [a, b].length != [Expr.Name x px, Expr.Name y py].length || X.env.blockKind != .function) = false := by
    rw [c.blockKind]; rfl
  simp only []
  rw [if_neg (by rw [h0]; decide)]
  split
  · rename_i z
    exfalso
    simp only [List.any_cons, List.any_nil, Bool.or_false, Bool.or_eq_true] at z
    rcases z with z | z
    · split at z
      · simp only [isStar] at ha; cases ha
      · cases z
    · split at z
      · simp only [isStar] at hb; cases hb
      · cases z
  · simp only [List.filterMap_cons, List.filterMap_nil, e1, e2, List.head?_cons, Option.map_some, Option.getD_some, Expr.pos, hl, beq_self_eq_true, Bool.and_self, if_true]
    rw [if_neg (by rw [hq]; exact Bool.false_ne_true), if_neg (by rw [hf]; decide), if_neg (by rw [hc]; decide)]
theorem swapped3 (c : Ctx t tb T C k W s X) {x y z : Str} {px py pz pt pv : Pos} {kt kv : Nat} {a b d : Expr} (hx : kindB s x .local = true) (hy : kindB s y .local = true) (hz : kindB s z .local = true) (hl : (py.line == px.line) = true) (hl2 : (pz.line == px.line) = true) (hn : x ≠ y) (hn2 : x ≠ z) (hn3 : y ≠ z) (ha : isStar a = false) (hb : isStar b = false) (hd : isStar d = false)
    (hf : ([a, b, d].all (foldedForSure 8)) = false) (hc : ([a, b, d].all (constantsAlone 8)) = false) : swappedStores [.Tuple [.Name x px, .Name y py, .Name z pz] kt pt] (.Tuple [a, b, d] kv pv) X.env = pure (some [x, y, z]) := by
  have e1 := c.localX hx
  have e2 := c.localX hy
  have e3 := c.localX hz
  have hq : ([x, y, z].eraseDups.length != [x, y, z].length) = false := by
    have e : [x, y, z].eraseDups = [x, y, z] := by
      have nb : (y == x) = false := by simpa using Ne.symm hn
      have nb2 : (z == x) = false := by simpa using Ne.symm hn2
      have nb3 : (z == y) = false := by simpa using Ne.symm hn3
      simp [List.eraseDups_cons, nb, nb2, nb3]
    rw [e]; rfl
  unfold swappedStores
  have h0 : (!([Expr.Name x px, Expr.Name y py, Expr.Name z pz].length == 2 || [Expr.Name x px, Expr.Name y py, Expr.Name z pz].length == 3) || [a, b, d].length != [Expr.Name x px, Expr.Name y py, Expr.Name z pz].length || X.env.blockKind != .function) = false := by
    rw [c.blockKind]; rfl
  simp only []
  rw [if_neg (by rw [h0]; decide)]
  split
  · rename_i z
    exfalso
    simp only [List.any_cons, List.any_nil, Bool.or_false, Bool.or_eq_true] at z
    rcases z with z | z | z
    · split at z
      · simp only [isStar] at ha; cases ha
      · cases z
    · split at z
      · simp only [isStar] at hb; cases hb
      · cases z
    · split at z
      · simp only [isStar] at hd; cases hd
      · cases z
  · simp only [List.filterMap_cons, List.filterMap_nil, e1, e2, e3, List.head?_cons, Option.map_some, Option.getD_some, Expr.pos, hl, hl2, beq_self_eq_true, Bool.and_self, if_true]
    rw [if_neg (by rw [hq]; exact Bool.false_ne_true), if_neg (by rw [hf]; decide), if_neg (by rw [hc]; decide)]
/-- y = [..]: the store stands within the comprehension or after it -/
def lcSwap (s : Sc) (y : Str) (py : Pos) : Expr → Bool
  | .ListComp _ _ scope pos => kindB s y .local && (py.line == pos.line) && !(scope.names.any fun (n, k) => n == y && (k == .local || k == .cell))
  | _ => false
/-- .. decided -/
def lcSide (s : Sc) (y : Str) (py : Pos) : Expr → Bool
  | .ListComp _ _ scope pos => kindB s y .local || kindB s y .cell
  | e => noComp e
theorem sw_false (c : Ctx t tb T C k W s X) {e : Expr} {y : Str} {py : Pos} {l : Nat} (h : lcSwap s y py e = false) (hd : lcSide s y py e = true) : swapsWith e (some (.Name y py)) l X.env = pure false := by
  cases e with
  | ListComp elt gs scope pos =>
    simp only [lcSide, Bool.or_eq_true] at hd
    unfold swapsWith
    simp only [lcSwap] at h
    have hb := c.blockKind
    rcases hd with hd | hd
    · have ky := c.localX hd
      rw [hd] at h
      simp only [Bool.true_and] at h
      simp only [hb, ky, Expr.pos]
      have : ((ScopeKind.function == ScopeKind.function) && (some NameKind.local == some NameKind.local) && (py.line == pos.line) && !(scope.names.any fun (n, k) => n == y && (k == .local || k == .cell))) = false := by
        rw [show ((ScopeKind.function == ScopeKind.function) && (some NameKind.local == some NameKind.local)) = true from rfl, Bool.true_and]
        exact h
      rw [this]
    · have ky := c.cellX hd
      simp only [hb, ky, Expr.pos]
      rfl
  | _ => exact swaps_no hd
theorem ps_lcX (G : Glob t tb T C k) (c : Ctx t tb T C k W s X) {el : E} {tg : Tg} {it : I} {ifs : List E} {vs : List Nat} {i : Nat} {y : Str} {py pos : Pos} {e : Expr} (hi : X.N[i]? = some y) (h : chkE tb (.lc el tg it ifs vs) s e = true) (hs : lcSwap s y py e = true) :
    PS X (.Assign [.Name y py] e pos) (rdS t W (asgFDen i (evE C (.lc el tg it ifs vs)))) := by
  simp only [chkE] at h
  split at h
  · simp only [Bool.and_eq_true, List.all_eq_true] at h
    obtain ⟨⟨⟨⟨⟨⟨⟨h1, h2⟩, h3⟩, h4⟩, h5⟩, h6⟩, h7⟩, h8⟩ := h
    rename_i el' tg' it' ifs' scope _
    have hk : scope.kind = .function := by
      split at h5
      · assumption
      · cases h5
    have e1 : evE C (.lc el tg it ifs vs) = lcF tg vs (evI C it) (evTests C ifs) (evE C el) := by funext ev S; simp only [evE, lcF, lcB] <;> rfl
    have ov : (ownOf s.N vs).map (·.2) = vs := by unfold ownOf; simp [List.map_map, Function.comp_def]
    have hv : ∀ j ∈ slotsT tg, j ∈ vs := fun j hj => by simpa using h4 j hj
    rw [e1]
    simp only [lcSwap, Bool.and_eq_true, Bool.not_eq_true'] at hs
    have hl := c.localX hs.1.1
    refine PS.imp (ps_setLc (own := ownOf s.N vs) (g := gX t tg) (tt := rdT t W0 (evTests C ifs)) (te := rdE t W0 true (evE C el)) c.calm c.ndX hi hl (sw_true c.sk hl hs.1.2 hs.2) (soundI G it c _ _ h1) (by rw [c.hN]; exact blkOk_of c h2) ?_ ?_ ?_ ?_) fun D σ H h => ?_
    · intro sh H A cl fp
      exact (soundTg (c.blk hk sh H A cl fp) tg _ h3).1
    · intro sh H A cl fp
      exact soundOne G ifs (c.blk hk sh H A cl fp) _ h6
    · intro sh H A cl fp
      have := (sound G el (c.blk hk sh H A cl fp) _ h8).1
      rw [h7] at this
      exact this
    · intro x
      exact folded_ok it s _ _ h1 x
    · show tLc _ _ _ _ _ σ H _
      rw [ov]
      exact lc_rd hv (asgF_rd h)
  · cases h
end
end Mp

set_option Elab.async false
set_option linter.all false
set_option maxRecDepth 100000
set_option autoImplicit false
set_option maxHeartbeats 4000000
namespace Mp
open PySem PySem.Spec L2
def isLc : E → Bool
  | .lc _ _ _ _ _ => true
  | _ => false
def parChk (s : Sc) : List Nat → List Expr → List Expr → Bool
  | [i, j], [.Name x px, .Name y py], [a, b] => (s.N[i]? == some x) && (s.N[j]? == some y) && kindB s x .local && kindB s y .local && (py.line == px.line) && decide (x ≠ y) && decide (i ≠ j) && !isStar a && !isStar b && !([a, b].all (foldedForSure 8)) && !([a, b].all (constantsAlone 8))
  | [i, j, k], [.Name x px, .Name y py, .Name z pz], [a, b, d] => (s.N[i]? == some x) && (s.N[j]? == some y) && (s.N[k]? == some z) && kindB s x .local && kindB s y .local && kindB s z .local && (py.line == px.line) && (pz.line == px.line) && decide (x ≠ y) && decide (x ≠ z) && decide (y ≠ z) && decide (i ≠ j) && decide (i ≠ k) && decide (j ≠ k) && !isStar a && !isStar b && !isStar d && !([a, b, d].all (foldedForSure 8)) && !([a, b, d].all (constantsAlone 8))
  | _, _, _ => false
def notSlice : Expr → Bool
  | .Slice _ _ none _ => false
  | _ => true
/-- what stands ahead of .append -/
def appBase : Expr → Bool
  | .Subscript .. => true
  | .Attribute .. => true
  | _ => false
theorem appBase_ok {o : Expr} {m : Str} {env : Env} {v : Sem Value} (h : appBase o = true) : attributeBase o m env v = v := by
  cases o <;> first | rfl | (simp [appBase] at h)
mutual
def chkT (tb : Tab) (s : Sc) : T → Stmt → Bool
  | .asg tg e, st => match st with
    | .Assign [tg'] e' _ => strong e && noComp e' && noSwapB s tg' e' && chkTg s tg tg' && chkE tb e s e'
    | _ => false
  | .par is es, st => match st with
    | .Assign [.Tuple ts _ _] (.Tuple vs _ _) _ => parChk s is ts vs && chkSs tb es s vs
    | _ => false
  | .asgF i e, st => match st with
    | .Assign [.Name y py] e' _ => storeB s i y && isFresh e && chkE tb e s e' && (if isLc e && lcSwap s y py e' then true else lcSide s y py e' && !(lcSwap s y py e'))
    | _ => false
  | .asgA a f e, st => match st with
    | .Assign [.Attribute a' f' _] e' _ => decide (f = f') && tb.ats.contains f && strong e && chkE tb e s e' && chkE tb a s a' && noComp e'
    | _ => false
  | .asgI a i e, st => match st with
    | .Assign [.Subscript a' i' _] e' _ => strong e && chkE tb e s e' && chkE tb a s a' && chkE tb i s i' && notSlice i' && noComp e'
    | _ => false
  | .dput a k e, st => match st with
    | .Assign [.Subscript a' k' _] e' _ => strong e && chkE tb e s e' && chkE tb a s a' && chkE tb k s k' && noComp e'
    | _ => false
  | .aug i o e, st => match st with
    | .AugAssign (.Name x _) o' e' _ => decide (o = o') && (decide (o = .Add) || decide (o = .Sub)) && storeB s i x && chkE tb e s e'
    | _ => false
  | .ex e, st => match st with
    | .Expr e' _ => noComp e' && chkE tb e s e'
    | _ => false
  | .ext i e, st => match st with
    | .Expr (.Call (.Attribute (.Name x _) m p2) [a] [] p3) _ => decide (m = "extend") && slotB s i x && isFresh e && chkE tb e s a && (p2.endLine == p3.line)
    | _ => false
  | .extC i e, st => match st with
    | .Expr (.Call (.Attribute (.Name x _) m p2) [a] [] p3) _ => decide (m = "extend") && slotB s i x && chkE tb e s a && (p2.endLine == p3.line)
    | _ => false
  | .asgO i k e, st => match st with
    | .Assign [.Subscript (.Name x _) i' _] e' _ => slotB s i x && strong e && chkE tb e s e' && chkE tb k s i' && notSlice i' && noComp e'
    | _ => false
  | .app i e, st => match st with
    | .Expr (.Call (.Attribute (.Name x _) m p2) [a] [] p3) _ => decide (m = "append") && slotB s i x && strong e && chkE tb e s a && (p2.endLine == p3.line)
    | _ => false
  | .clr i, st => match st with
    | .Expr (.Call (.Attribute (.Name x _) m p2) [] [] p3) _ => decide (m = "clear") && slotB s i x && (p2.endLine == p3.line)
    | _ => false
  | .ifs c a b, st => match st with
    | .If c' a' b' _ => chkE tb c s c' && testB c c' && chkTs tb s a a' && chkTs tb s b b'
    | _ => false
  | .fr tg it b, st => match st with
    | .For tg' it' b' [] _ => chkI tb it s tg' it' && chkTg s tg tg' && chkTs tb s b b'
    | _ => false
  | .wh c b, st => match st with
    | .While c' b' [] _ => chkE tb c s c' && testB c c' && chkTs tb s b b'
    | _ => false
  | .ret e, st => match st with
    | .Return (some e') _ => strong e && chkE tb e s e'
    | _ => false
  | .retN, st => match st with
    | .Return none _ => true
    | _ => false
  | .pass, st => match st with
    | .Pass _ => true
    | _ => false
  | .brk, st => match st with
    | .Break _ => true
    | _ => false
  | .cont, st => match st with
    | .Continue _ => true
    | _ => false
  | .nev, _ => true
  | .raise c ns es, st => match st with
    | .Raise (some (.Call (.Name x _) (a :: as) [] _)) none _ => (match tb.ex[c]? with | some (nm, ns') => decide (nm = x) && decide (ns = ns') | none => false) && !ns.isEmpty && kindB s x .globalImplicit && notDbg x && decide (es.length ≤ 1000) && chkSs tb es s (a :: as)
    | _ => false
  | .appE a e, st => match st with
    | .Expr (.Call (.Attribute o m p2) [b] [] p3) _ => decide (m = "append") && appBase o && chkE tb a s o && strong e && chkE tb e s b && (p2.endLine == p3.line)
    | _ => false
  | .tr k e hs, st => match st with
    | .Try [b] hd [] [] _ => chkHdl tb s hs hd && strong e && (match k, b with
        | .ex, .Expr e' _ => noComp e' && chkE tb e s e'
        | .asg tg, .Assign [tg'] e' _ => noComp e' && noSwapB s tg' e' && chkTg s tg tg' && chkE tb e s e'
        | .ret, .Return (some e') _ => chkE tb e s e'
        | _, _ => false)
    | _ => false
  | .frz is x, st => chkT tb s x st
def chkTs (tb : Tab) (s : Sc) : List T → List Stmt → Bool
  | [], sts => sts.isEmpty
  | x :: xs, sts => match sts with
    | st :: sts => chkT tb s x st && chkTs tb s xs sts
    | [] => false
end
section
variable {t : Tp} {tb : Tab} {T : Top} {C : Cl} {k : Nat} {W : WX} {s : Sc} {X : Cx}
theorem rdS_bad {st : Stmt} : PS X st (rdS t W fun _ _ => .bad) := PS.imp ps_never fun D σ H h => by
  obtain ⟨g0, H0, ev, S, g, b, h⟩ := h
  exact h.elim
theorem chk_notSlice {e : Expr} (h : notSlice e = true) : ∀ a b p, e ≠ .Slice a b none p := by
  intro a b p z; subst z; cases h
theorem chkEs_len : ∀ {xs : List E} {es : List Expr}, chkEs tb xs s es = true → xs.length = es.length
  | [], es, h => by
    simp only [chkEs, List.isEmpty_iff] at h
    subst h; rfl
  | x :: xs, es, h => by
    cases es with
    | nil => simp only [chkEs] at h; cases h
    | cons e es =>
      simp only [chkEs, Bool.and_eq_true] at h
      rw [List.length_cons, List.length_cons, chkEs_len h.2]
theorem RepsX_len' : ∀ {xs : List E}, (xs.map strong).all id = true → xs.map strong = List.replicate xs.length true
  | [], _ => rfl
  | x :: xs, h => by
    simp only [List.map_cons, List.all_cons, Bool.and_eq_true, id] at h
    rw [List.map_cons, List.length_cons, List.replicate_succ, RepsX_len' h.2, h.1]
mutual
theorem soundT (G : Glob t tb T C k) (c : Ctx t tb T C k W s X) (ft : FnTop X) (g : Nat) : ∀ (x : Mp.T) (st : Stmt), chkT tb s x st = true → PS X st (rdS t W (evT C g x))
  | .asg tg e, st, h => by
    simp only [chkT] at h
    split at h
    · simp only [Bool.and_eq_true] at h
      obtain ⟨⟨⟨⟨h1, h2⟩, h3⟩, h4⟩, h5⟩ := h
      obtain ⟨p1, p2⟩ := soundTg c tg _ h4
      have q := (sound G e c _ h5).1
      rw [h1] at q
      have e1 : evT C g (.asg tg e) = asgDen tg (evE C e) := by funext ev S; simp only [evT, asgDen] <;> rfl
      rw [e1]
      exact ps_asgX q p1 (swaps_no h2) (swapped_none c h3) (by rw [assign1 p2]; rfl)
    · cases h
  | .par is es, st, h => by
    simp only [chkT] at h
    split at h
    · simp only [Bool.and_eq_true] at h
      obtain ⟨h1, h2⟩ := h
      obtain ⟨h3, h4⟩ := chkSs_chkEs es s _ h2
      have q := soundEs G es c _ h3
      have ob := (RepsX_len' h4)
      have e1 : evT C g (.par is es) = parDen is (evEs C es) := by funext ev S; simp only [evT, parDen] <;> rfl
      rw [e1]
      unfold parChk at h1
      split at h1
      · simp only [Bool.and_eq_true, decide_eq_true_eq, Bool.not_eq_true', ne_eq] at h1
        obtain ⟨⟨⟨⟨⟨⟨⟨⟨⟨⟨a1, a2⟩, a3⟩, a4⟩, a5⟩, a6⟩, a7⟩, a8⟩, a9⟩, a10⟩, a11⟩ := h1
        have hl : es.length = 2 := chkEs_len h3
        exact ps_par2X c.calm c.ndX (by rw [c.hN]; exact eq_of_beq a1) (by rw [c.hN]; exact eq_of_beq a2) a7 (c.localX a3) (c.localX a4) (by rw [ob, hl]; rfl) q (swapped2 c a3 a4 a5 a6 a8 a9 a10 a11)
      · simp only [Bool.and_eq_true, decide_eq_true_eq, Bool.not_eq_true', ne_eq] at h1
        obtain ⟨⟨⟨⟨⟨⟨⟨⟨⟨⟨⟨⟨⟨⟨⟨⟨⟨⟨a1, a2⟩, a3⟩, a4⟩, a5⟩, a6⟩, a7⟩, a8⟩, a9⟩, a10⟩, a11⟩, a12⟩, a13⟩, a14⟩, a15⟩, a16⟩, a17⟩, a18⟩, a19⟩ := h1
        have hl : es.length = 3 := chkEs_len h3
        exact ps_par3X c.calm c.ndX (by rw [c.hN]; exact eq_of_beq a1) (by rw [c.hN]; exact eq_of_beq a2) (by rw [c.hN]; exact eq_of_beq a3) a12 a13 a14 (c.localX a4) (c.localX a5) (c.localX a6) (by rw [ob, hl]; rfl) q (swapped3 c a4 a5 a6 a7 a8 a9 a10 a11 a15 a16 a17 a18 a19)
      · cases h1
    · cases h
  | .asgF i e, st, h => by
    simp only [chkT] at h
    split at h
    · simp only [Bool.and_eq_true] at h
      obtain ⟨⟨⟨h1, h2⟩, h3⟩, h4⟩ := h
      obtain ⟨a1, a2, a3⟩ := c.store h1
      have e1 : evT C g (.asgF i e) = asgFDen i (evE C e) := by funext ev S; simp only [evT, asgFDen] <;> rfl
      rw [e1]
      rename_i y py e' _
      by_cases z : isLc e = true ∧ lcSwap s y py e' = true
      · skip
        cases e <;> simp only [isLc] at z <;> first | (exact absurd z.1 Bool.false_ne_true) | skip
        exact ps_lcX G c a1 h3 z.2
      · rw [if_neg z] at h4
        simp only [Bool.and_eq_true, Bool.not_eq_true'] at h4
        exact ps_asgFX c.ndX a1 a2 a3 (soundF G e c _ h2 h3) (sw_false c h4.2 h4.1)
    · cases h
  | .asgA a f e, st, h => by
    simp only [chkT] at h
    split at h
    · simp only [Bool.and_eq_true, decide_eq_true_eq] at h
      obtain ⟨⟨⟨⟨⟨rfl, h1⟩, h2⟩, h3⟩, h4⟩, h5⟩ := h
      have q := (sound G e c _ h3).1
      rw [h2] at q
      have e1 : evT C g (.asgA a f e) = asgADen (evE C e) (evE C a) f := by funext ev S; simp only [evT, asgADen] <;> rfl
      rw [e1]
      exact ps_asgAX c G (by simpa using h1) q (sound G a c _ h4).1 (swaps_no h5)
    · cases h
  | .asgI a i e, st, h => by
    simp only [chkT] at h
    split at h
    · simp only [Bool.and_eq_true] at h
      obtain ⟨⟨⟨⟨⟨h1, h2⟩, h3⟩, h4⟩, h5⟩, h6⟩ := h
      have q := (sound G e c _ h2).1
      rw [h1] at q
      have e1 : evT C g (.asgI a i e) = asgIDen (evE C e) (evE C a) (evE C i) := by funext ev S; simp only [evT, asgIDen] <;> rfl
      rw [e1]
      exact ps_asgIX q (sound G a c _ h3).1 (sound G i c _ h4).1 (chk_notSlice h5) (swaps_no h6) rfl
    · cases h
  | .dput a k e, st, h => by
    simp only [chkT] at h
    split at h
    · simp only [Bool.and_eq_true] at h
      obtain ⟨⟨⟨⟨h1, h2⟩, h3⟩, h4⟩, h5⟩ := h
      have q := (sound G e c _ h2).1
      rw [h1] at q
      have e1 : evT C g (.dput a k e) = dputDen (evE C e) (evE C a) (evE C k) := by funext ev S; simp only [evT, dputDen] <;> rfl
      rw [e1]
      exact ps_dputX c.un q (sound G a c _ h3).1 (sound G k c _ h4).1 (swaps_no h5)
    · cases h
  | .aug i o e, st, h => by
    simp only [chkT] at h
    split at h
    · simp only [Bool.and_eq_true, Bool.or_eq_true, decide_eq_true_eq] at h
      obtain ⟨⟨⟨rfl, h1⟩, h2⟩, h3⟩ := h
      obtain ⟨a1, a2, a3⟩ := c.store h2
      have e1 : evT C g (.aug i o e) = augDen i o (evE C e) := by funext ev S; simp only [evT, augDen] <;> rfl
      rw [e1]
      exact ps_augX c.ndX a1 a2 a3 (sound G e c _ h3).1 h1
    · cases h
  | .ex e, st, h => by
    simp only [chkT] at h
    split at h
    · simp only [Bool.and_eq_true] at h
      have e1 : evT C g (.ex e) = fun ev S => (evE C e ev S).bind fun _ S1 => .ok (.nx ev) S1 := by funext ev S; simp only [evT]
      rw [e1]
      exact ps_exX (sound G e c _ h.2).1 (swaps_no h.1)
    · cases h
  | .ext i e, st, h => by
    simp only [chkT] at h
    split at h
    · simp only [Bool.and_eq_true, decide_eq_true_eq] at h
      obtain ⟨⟨⟨⟨rfl, h1⟩, h2⟩, h3⟩, h4⟩ := h
      obtain ⟨a1, a2, a3, a4⟩ := c.slot h1
      have e1 : evT C g (.ext i e) = extDen i (evE C e) := by funext ev S; simp only [evT, extDen] <;> rfl
      rw [e1]
      exact ps_extX (pe_var a1 a2 a3 a4) (soundF G e c _ h2 h3) (chk_noStar e s _ h3) h4
    · cases h
  | .extC i e, st, h => by
    simp only [chkT] at h
    split at h
    · simp only [Bool.and_eq_true, decide_eq_true_eq] at h
      obtain ⟨⟨⟨rfl, h1⟩, h3⟩, h4⟩ := h
      obtain ⟨a1, a2, a3, a4⟩ := c.slot h1
      have e1 : evT C g (.extC i e) = extCDen i (evE C e) := by funext ev S; simp only [evT, extCDen] <;> rfl
      rw [e1]
      exact ps_extCX (pe_var a1 a2 a3 a4) (sound G e c _ h3).1 (chk_noStar e s _ h3) h4
    · cases h
  | .asgO i k e, st, h => by
    simp only [chkT] at h
    split at h
    · simp only [Bool.and_eq_true] at h
      obtain ⟨⟨⟨⟨⟨h0, h1⟩, h2⟩, h4⟩, h5⟩, h6⟩ := h
      obtain ⟨a1, a2, a3, a4⟩ := c.slot h0
      have q := (sound G e c _ h2).1
      rw [h1] at q
      have e1 : evT C g (.asgO i k e) = asgODen i (evE C e) (evE C k) := by funext ev S; simp only [evT, asgODen] <;> rfl
      rw [e1]
      exact ps_asgOX q (pe_var a1 a2 a3 a4) (sound G k c _ h4).1 (chk_notSlice h5) (swaps_no h6) rfl
    · cases h
  | .app i e, st, h => by
    simp only [chkT] at h
    split at h
    · simp only [Bool.and_eq_true, decide_eq_true_eq] at h
      obtain ⟨⟨⟨⟨rfl, h1⟩, h2⟩, h3⟩, h4⟩ := h
      obtain ⟨a1, a2, a3, a4⟩ := c.slot h1
      have q := (sound G e c _ h3).1
      rw [h2] at q
      have e1 : evT C g (.app i e) = appDen i (evE C e) := by funext ev S; simp only [evT, appDen] <;> rfl
      rw [e1]
      exact ps_appX (pe_var a1 a2 a3 a4) q (chk_noStar e s _ h3) h4
    · cases h
  | .clr i, st, h => by
    simp only [chkT] at h
    split at h
    · simp only [Bool.and_eq_true, decide_eq_true_eq] at h
      obtain ⟨⟨rfl, h1⟩, h2⟩ := h
      obtain ⟨a1, a2, a3, a4⟩ := c.slot h1
      have e1 : evT C g (.clr i) = clrDen i := by funext ev S; simp only [evT, clrDen] <;> rfl
      rw [e1]
      exact ps_clrX (pe_var a1 a2 a3 a4) h2
    · cases h
  | .ifs x a b, st, h => by
    simp only [chkT] at h
    split at h
    · simp only [Bool.and_eq_true] at h
      obtain ⟨⟨⟨h1, h2⟩, h3⟩, h4⟩ := h
      have e1 : evT C g (.ifs x a b) = fun ev S => (truF (evE C x) ev S).bind fun k S2 => if k then evTs C g a ev S2 else evTs C g b ev S2 := by
        funext ev S; simp only [evT, truF, Out.bind_assoc]
      rw [e1]
      exact ps_ifX ((sound G x c _ h1).2 h2) (soundTs G c ft g a _ h3) (soundTs G c ft g b _ h4)
    · cases h
  | .fr tg it b, st, h => by
    simp only [chkT] at h
    split at h
    · simp only [Bool.and_eq_true] at h
      obtain ⟨⟨h1, h2⟩, h3⟩ := h
      have e1 : evT C g (.fr tg it b) = forDen tg (evI C it) (evTs C g b) := by funext ev S; simp only [evT, forDen] <;> rfl
      rw [e1]
      exact ps_forX c.own c.calm (soundI G it c _ _ h1) (soundTg c tg _ h2).1 (soundTs G c ft g b _ h3) (folded_ok it s _ _ h1)
    · cases h
  | .wh x b, st, h => by
    simp only [chkT] at h
    split at h
    · simp only [Bool.and_eq_true] at h
      obtain ⟨⟨h1, h2⟩, h3⟩ := h
      have e1 : evT C g (.wh x b) = whDen (truF (evE C x)) (evTs C g b) g := by funext ev S; simp only [evT, whDen] <;> rfl
      rw [e1]
      exact ps_whX c.own ((sound G x c _ h1).2 h2) (soundTs G c ft g b _ h3)
    · cases h
  | .ret e, st, h => by
    simp only [chkT] at h
    split at h
    · simp only [Bool.and_eq_true] at h
      have q := (sound G e c _ h.2).1
      rw [h.1] at q
      have e1 : evT C g (.ret e) = fun ev S => (evE C e ev S).bind fun x S1 => .ok (.rt x) S1 := by funext ev S; simp only [evT]
      rw [e1]
      exact ps_retX q
    · cases h
  | .retN, st, h => by
    simp only [chkT] at h
    split at h
    · have e1 : evT C g .retN = fun _ S => .ok (.rt .non) S := by funext ev S; simp only [evT]
      rw [e1]; exact ps_retNX
    · cases h
  | .pass, st, h => by
    simp only [chkT] at h
    split at h
    · have e1 : evT C g .pass = fun ev S => .ok (.nx ev) S := by funext ev S; simp only [evT]
      rw [e1]; exact ps_passX
    · cases h
  | .brk, st, h => by
    simp only [chkT] at h
    split at h
    · have e1 : evT C g .brk = fun ev S => .ok (.bk ev) S := by funext ev S; simp only [evT]
      rw [e1]; exact ps_brkX
    · cases h
  | .cont, st, h => by
    simp only [chkT] at h
    split at h
    · have e1 : evT C g .cont = fun ev S => .ok (.ct ev) S := by funext ev S; simp only [evT]
      rw [e1]; exact ps_contX
    · cases h
  | .nev, st, h => by
    have e1 : evT C g .nev = fun _ _ => .bad := by funext ev S; simp only [evT]
    rw [e1]; exact rdS_bad
  | .raise cc ns es, st, h => by
    simp only [chkT] at h
    split at h
    case h_2 => cases h
    simp only [Bool.and_eq_true, decide_eq_true_eq, Bool.not_eq_true'] at h
    obtain ⟨⟨⟨⟨⟨h1, h2⟩, h3⟩, h4⟩, h5⟩, h6⟩ := h
    cases zx : tb.ex[cc]? with
    | none => rw [zx] at h1; cases h1
    | some q =>
      obtain ⟨nm, ns'⟩ := q
      rw [zx] at h1
      simp only [Bool.and_eq_true, decide_eq_true_eq] at h1
      obtain ⟨rfl, rfl⟩ := h1
      obtain ⟨h7, h8⟩ := chkSs_chkEs es s _ h6
      have e1 : evT C g (.raise cc ns es) = raiseDen cc ns (evEs C es) := by funext ev S; simp only [evT, raiseDen] <;> rfl
      rw [e1]
      exact ps_raiseX c G zx (by intro z; subst z; cases h2) h3 (by simpa [notDbg] using h4) h8 (by simpa using h5) (soundEs G es c _ h7) (chkEs_noStar es s _ h7)
  | .appE a e, st, h => by
    simp only [chkT] at h
    split at h
    case h_2 => cases h
    simp only [Bool.and_eq_true, decide_eq_true_eq] at h
    obtain ⟨⟨⟨⟨⟨rfl, h1⟩, h2⟩, h3⟩, h4⟩, h5⟩ := h
    have q := (sound G e c _ h4).1
    rw [h3] at q
    have e1 : evT C g (.appE a e) = appEDen (evE C a) (evE C e) := by funext ev S; simp only [evT, appEDen] <;> rfl
    rw [e1]
    exact ps_appEX (sound G a c _ h2).1 q (chk_noStar e s _ h4) (appBase_ok h1) h5
  | .tr kk e hs, st, h => by
    simp only [chkT] at h
    split at h
    case h_2 => cases h
    simp only [Bool.and_eq_true] at h
    obtain ⟨⟨h1, h2⟩, h3⟩ := h
    have e1 : evT C g (.tr kk e hs) = trDen kk (evE C e) hs := by funext ev S; simp only [evT, trDen] <;> rfl
    rw [e1]
    refine ps_trL c G ft h1 fun W' pn xe c' => ?_
    have sd : ∀ e', chkE tb e s e' = true → PE (X.tr pn xe) e' (rdE t W' true (evE C e)) := fun e' he => by
      have q := (sound G e c' _ he).1
      rw [h2] at q; exact q
    split at h3
    · simp only [Bool.and_eq_true] at h3
      exact pss_one (ps_expr (sd _ h3.2) (swaps_no h3.1))
    · simp only [Bool.and_eq_true] at h3
      obtain ⟨⟨⟨a1, a2⟩, a3⟩, a4⟩ := h3
      obtain ⟨p1, p2⟩ := soundTg c' _ _ a3
      exact pss_one (ps_asg (sd _ a4) p1 (swaps_no a1) (swapped_none c' a2) (by rw [assign1 p2]; rfl))
    · exact pss_one (ps_ret (sd _ h3))
    · cases h3
  | .frz is x, st, h => by
    simp only [chkT] at h
    have e1 : evT C g (.frz is x) = fun ev S => evT C g x (frzE ev is) S := by funext ev S; simp only [evT]
    rw [e1]
    exact PS.frz is (soundT G c ft g x st h)
theorem soundTs (G : Glob t tb T C k) (c : Ctx t tb T C k W s X) (ft : FnTop X) (g : Nat) : ∀ (xs : List Mp.T) (sts : List Stmt), chkTs tb s xs sts = true → PSs X sts (rdS t W (evTs C g xs))
  | [], sts, h => by
    simp only [chkTs, List.isEmpty_iff] at h
    subst h
    have e1 : evTs C g [] = fun ev S => .ok (.nx ev) S := by funext ev S; simp only [evTs]
    rw [e1]; exact pss_nilX
  | x :: xs, sts, h => by
    cases sts with
    | nil => simp only [chkTs] at h; cases h
    | cons st sts =>
      simp only [chkTs, Bool.and_eq_true] at h
      have e1 : evTs C g (x :: xs) = fun ev S => (evT C g x ev S).bind fun l S1 => match l with | .nx ev1 => evTs C g xs ev1 S1 | _ => .ok l S1 := by funext ev S; simp only [evTs] <;> rfl
      rw [e1]
      exact pss_consX (soundT G c ft g x st h.1) (soundTs G c ft g xs sts h.2)
end
end
end Mp

set_option Elab.async false
set_option linter.all false
set_option maxRecDepth 100000
set_option autoImplicit false
set_option maxHeartbeats 4000000
namespace Mp
open PySem PySem.Spec L2
/-- a def: its name, its parameters, the names of its slots (the parameters first), its body -/
structure Fd where
  nm : Str
  ps : List Str
  N : List Str
  body : List T
  /-- it makes lambdas; its parameter is a lambda -/
  lm : Bool
  tk : Bool
def runF (C : Cl) (g : Nat) (d : Fd) (l : List D) (S : Store) : Out D :=
  (evTs C g d.body (l.map Sl.va ++ List.replicate (d.N.length - l.length) Sl.no) S).bind fun f S1 => match f with
    | .nx _ => .ok .non S1
    | .rt x => .ok x S1
    | _ => .bad
/-- .. that is handed a lambda -/
def runT (C : Cl) (g : Nat) (d : Fd) (S : Store) : Out D :=
  (evTs C g d.body (Sl.th :: List.replicate (d.N.length - 1) Sl.no) S).bind fun f S1 => match f with
    | .nx _ => .ok .non S1
    | .rt x => .ok x S1
    | _ => .bad
/-- what the functions compute, calls n deep -/
def sem (F : Nat → Option Fd) (g : Nat) : Nat → Cl
  | 0 => ⟨fun _ _ _ _ _ => .bad, fun _ _ _ => .bad, fun _ => .bad⟩
  | n + 1 => ⟨fun f l kn ks S => match F f with
      | some d => if kn.isEmpty && ks.isEmpty && decide (l.length = d.ps.length) then runF (sem F g n) g d l S else .bad
      | none => .bad,
    fun f th S => match F f with
      | some d => runT { sem F g n with th := th } g d S
      | none => .bad, fun _ => .bad⟩
section
variable {t : Tp} {tb : Tab} {T : Top} {C : Cl} {k : Nat}
theorem slots_start {g : Gh} {H : Hp} {ds : List D} {vs : List V} {N : List Str} (r : Reps t g ds vs) : Slots t (ds.map Sl.va ++ List.replicate (N.length - ds.length) Sl.no) g (L2.start N vs) H where
  len := by
    unfold L2.start
    simp [r.len]
  at' := fun i s e => by
    unfold L2.start
    by_cases hi : i < ds.length
    · rw [List.getElem?_append_left (by simpa using hi), List.getElem?_map] at e
      rw [List.getElem?_append_left (by simpa [← r.len] using hi), List.getElem?_map]
      cases z : ds[i]? with
      | none => rw [z] at e; cases e
      | some d =>
        rw [z] at e
        cases e
        obtain ⟨x, q, rx⟩ := r.get z
        exact ⟨x, by rw [q]; rfl, rx⟩
    · rw [List.getElem?_append_right (by simpa using hi), List.getElem?_replicate] at e
      split at e
      · cases e; trivial
      · cases e
  dis := fun i j l l' p e1 _ _ _ => by
    by_cases hi : i < ds.length
    · rw [List.getElem?_append_left (by simpa using hi), List.getElem?_map] at e1
      cases z : ds[i]? with
      | none => rw [z] at e1; cases e1
      | some d => rw [z] at e1; cases e1
    · rw [List.getElem?_append_right (by simpa using hi), List.getElem?_replicate] at e1
      split at e1 <;> cases e1
theorem no_ow {ds : List D} {n i : Nat} {l : List D} (e1 : (ds.map Sl.va ++ List.replicate n Sl.no)[i]? = some (Sl.ow l)) : False := by
  by_cases hi : i < ds.length
  · rw [List.getElem?_append_left (by simpa using hi), List.getElem?_map] at e1
    cases z : ds[i]? with
    | none => rw [z] at e1; cases e1
    | some d => rw [z] at e1; cases e1
  · rw [List.getElem?_append_right (by simpa using hi), List.getElem?_replicate] at e1
    split at e1 <;> cases e1
theorem cxOf_ctx {N ps : List Str} {sc : Scope} (S : FnScope N ps sc) {qual : Str} {f : Addr} {cd : Value} {A : Around} {outer : List Env} {s : Shared} {H : Hp} {E : XK} {lm : Bool} (hlm : lm = true → ∃ c P, cd = .ref c ∧ (P, (qual ++ ".<locals>.") ++ "<lambda>") ∈ t.tabs ∧ LamX.TabB T.base T.mg c P)
    (hr : Room (k + 3) (A.deeper (PyProof.Rows.envOfC qual sc s.heap.objs.size f cd))) :
    Ctx t tb T C k (fun cls d _ H => E cls d H) ⟨N, sc, lm, false⟩ (cxOf (L2.CX T.P T.w) T.P T.w t.K T.mg T.base N qual sc f cd A outer s H E) where
  hK := rfl
  hP := rfl
  hw := rfl
  hg := rfl
  hb := rfl
  hN := rfl
  nd := S.nd
  kd := fun x q h => .inl h
  sk := S.kind
  calm := rfl
  room := hr.mono (by omega)
  own := passes_of rfl
  tk := takes_of rfl rfl rfl rfl
  st := fun x _ => rfl
  lm := fun h => by
    obtain ⟨c, P, e1, e2, e3⟩ := hlm h
    exact ⟨c, P, e1, e2, e3, hr⟩
  thk := fun h => nomatch h
/-- a def of the text, checked -/
structure DefOk (t : Tp) (tb : Tab) (T : Top) (d : Fd) (a : Addr) (fd : FuncData) : Prop where
  ex : ∃ (st : Stmt) (qual : Str), Fun t.K d.nm qual st a fd ∧ FnScope d.N d.ps (defScope st) ∧ chkTs tb ⟨d.N, defScope st, d.lm, false⟩ d.body (defBody st) = true ∧ (d.lm = true → ∃ c P, fd.code = .ref c ∧ (P, (qual ++ ".<locals>.") ++ "<lambda>") ∈ t.tabs ∧ LamX.TabB T.base T.mg c P)
  bd : Binds t.K fd d.ps []
/-- .. that is handed a lambda -/
structure TkOk (t : Tp) (tb : Tab) (d : Fd) (a : Addr) (fd : FuncData) : Prop where
  ex : ∃ (st : Stmt) (qual y : Str), Fun t.K d.nm qual st a fd ∧ FnScope d.N [y] (defScope st) ∧ (y == ("__debug__" : Str)) = false ∧ (y == ("__classdict__" : Str)) = false ∧ chkTs tb ⟨d.N, defScope st, false, true⟩ d.body (defBody st) = true ∧ Binds t.K fd [y] []
theorem okXL {P : Program} {w : World} {K : PySem.W.Frag} {mg : Str → Option Value} {base : Heap} {x qual : Str} {st : Stmt} {f : Addr} {fd : FuncData} {N ps : List Str} {k : Nat} {sp : Sp} (F : Fun K x qual st f fd) (S : FnScope N ps (defScope st)) (len : ∀ vs H Q E, sp vs H Q E → vs.length = ps.length)
    (hb : ∀ (A : Around) (outer : List Env) (s : Shared) (H : Hp) (vs : List V) (Q : VK) (E : XK), Room k (A.deeper (PyProof.Rows.envOfC qual (defScope st) s.heap.objs.size f fd.code)) → sp vs H Q E →
      ∃ tt, PSs (cxOf (L2.CX P w) P w K mg base N qual (defScope st) f fd.code A outer s H E) (defBody st) tt ∧ tt { nx := fun _ H2 => Q .non H2, rt := Q } (L2.start N vs) H) : FnOk P w K mg base (L2.CX P w) (k + 1) f fd ps sp := by
  obtain ⟨oc, od, kV, doc, pm, an, cdv, ct, osl, rfl, lk, hcd⟩ := F.ex
  exact fn_of lk hcd S len fun A outer s H vs Q E hr h => hb A outer s H vs Q E hr h
theorem fnOk_of (G : Glob t tb T C k) {d : Fd} {a : Addr} {fd : FuncData} (h : DefOk t tb T d a fd) {C' : Cl} {f g : Nat} (hC : ∀ l S, l.length = d.ps.length → C'.fn f l [] [] S = runF C g d l S) :
    FnOk T.P T.w t.K T.mg T.base (L2.CX T.P T.w) (k + 4) a fd d.ps (spF t C' f d.ps.length) := by
  obtain ⟨st, qual, F, S, hc, hlm⟩ := h.ex
  refine okXL (k := k + 3) F S (fun vs H Q E h => ?_) fun A outer s H vs Q E hr h => ?_
  · obtain ⟨S, g, ds, w, r, hl, _⟩ := h
    rw [← r.len, hl]
  · obtain ⟨S0, g0, ds, w, r, hl, h⟩ := h
    rw [hC _ _ hl] at h
    refine ⟨_, soundTs G (cxOf_ctx S hlm hr) ⟨rfl, rfl⟩ g d.body _ hc, g0, H, _, S0, g0, ⟨slots_start r, w, Frm.refl _ _, fun i l p e1 _ => (no_ow e1).elim⟩, ?_⟩
    unfold runF at h
    cases z : evTs C g d.body (ds.map Sl.va ++ List.replicate (d.N.length - ds.length) Sl.no) S0 with
    | ok fl S1 =>
      rw [z] at h
      cases fl with
      | nx ev => exact fun σ' H' g' b _ => h _ H' g' b.fr b.w (by simp only [Rep])
      | rt x => exact fun v H' g' f1 w1 r1 => h v H' g' f1 w1 r1
      | bk ev => exact h.elim
      | ct ev => exact h.elim
    | exc e S1 =>
      rw [z] at h
      exact fun cls dd σ' H' g' f1 w1 r1 => h cls dd H' g' f1 w1 r1
    | bad => rw [z] at h; exact h.elim
theorem fnOk_bad {a : Addr} {fd : FuncData} {ps : List Str} {f : Nat} {C : Cl} (hC : ∀ l kn ks S, C.fn f l kn ks S = .bad) : FnOk T.P T.w t.K T.mg T.base (L2.CX T.P T.w) k a fd ps (spF t C f ps.length) := by
  refine ⟨fun vs H Q E h => ?_, fun A outer s H args us vs Q E hr e0 hb r hsp => ?_⟩
  · obtain ⟨S, g, ds, w, r, hl, z⟩ := h
    rw [← r.len, hl]
  · obtain ⟨S, g, ds, w, r, hl, z⟩ := hsp
    rw [hC] at z; exact z.elim
/-- the same with another lambda at hand -/
theorem Glob.at (G : Glob t tb T C k) (i : ThI) (th : Store → Out D) : Glob (t.at i) tb T { C with th := th } k where
  top := ⟨fun c A e => { G.top.cls c A e with }, G.top.oo⟩
  fn := fun f nm np e => by
    obtain ⟨a, fd, ps, h1, h2, h3, h4, h5, h6⟩ := (G.fn f nm np e).ex
    exact ⟨a, fd, ps, h1, h2, h3, h4, by rw [spF_at]; exact h5, h6⟩
  cls := fun c nm e => let ⟨A, h1, h2⟩ := G.cls c nm e; ⟨A, h1, { h2 with }⟩
  mt := fun c f m np e => by
    obtain ⟨A, a, fd, ps, h1, h2, h3, h4, h5, h6, h7⟩ := (G.mt c f m np e).ex
    exact ⟨A, a, fd, ps, h1, h2, h3, h4, h5, by rw [spF_at]; exact h6, h7⟩
  ats := G.ats
  gl := fun x d e => let ⟨v, u, h1, h2, h3⟩ := G.gl x d e; ⟨v, u, h1, h2, fun g => by rw [rep_at]; exact h3 g⟩
  bn := G.bn
  ex := fun c nm ns e => ⟨(G.ex c nm ns e).ex⟩
  exm := G.exm
  exf := G.exf
  k2 := G.k2
  tbu := G.tbu
  ft := fun f nm e => by
    obtain ⟨ga, fd, N, a, qual, st, h1, h2, h3, h4, h5, h6, h7, h8, h9⟩ := (G.ft f nm e).ex
    refine ⟨ga, fd, N, a, qual, st, h1, h2, h3, h4, h5, h6, h7, h8, fun A outer s H Q E j th2 S g hr lc cap hG w h => ?_⟩
    refine h9 A outer s H Q E j th2 S g hr ?_ (by rw [cap_at] at cap; exact cap) hG (wld_at.1 w) ?_
    · intro W pn xe p1 p2 tk
      refine PE.imp (lc W pn xe p1 p2 tk) fun σ H1 Q1 ⟨q1, q2, q3⟩ => ⟨q1, q2, ?_⟩
      obtain ⟨S1, g1, c1, w1, h1⟩ := q3
      refine ⟨S1, g1, by rw [cap_at]; exact c1, wld_at.2 w1, ?_⟩
      rw [aft_at]; simp only [rep_at]; exact h1
    · rw [aft_at] at h; simp only [rep_at] at h; exact h
theorem tk_run (G : Glob t tb T C k) {d : Fd} {a : Addr} {fd : FuncData} (h : TkOk t tb d a fd) {nm : Str} (hm : T.mg nm = some (.ref a)) (hn : d.nm = nm) {C' : Cl} {f g : Nat} (hC : ∀ th S, C'.fnT f th S = runT { C with th := th } g d S) : FnTF t T C' (k + 4) f nm := by
  obtain ⟨st, qual, y, F, S, hd1, hd2, hc, hB⟩ := h.ex
  have hN0 : d.N[0]? = some y := by
    have := S.pre
    cases e : d.N with
    | nil => rw [e] at this; cases this
    | cons x r => rw [e] at this; simp at this; rw [this]; rfl
  have hv : Vis (defScope st) y := by
    rcases S.par y (by simp) with z | z
    · exact .inl z
    · exact .inr (.inl z)
  refine ⟨a, fd, d.N, y, qual, st, hm, by rw [← hn]; exact F, S, hB, hN0, hv, hd1, hd2, fun A outer s H Q E i th S0 g0 hr lc cap hG w h => ?_⟩
  rw [hC] at h
  have X : Ctx (t.at i) tb T { C with th := th } k (fun cls d _ H => E cls d H) ⟨d.N, defScope st, false, true⟩ (cxT t T d.N qual (defScope st) a fd.code A outer s H E) :=
    { hK := rfl, hP := rfl, hw := rfl, hg := rfl, hb := rfl, hN := rfl, nd := S.nd, kd := fun x q h => .inl h, sk := S.kind, calm := rfl, room := hr.mono (by omega), own := passes_of rfl, tk := takes_of rfl rfl rfl rfl, st := fun x _ => rfl, lm := (fun h => nomatch h),
      thk := fun _ W2 pn xe tk y2 p1 p2 hy => by
        have ey : y2 = y := by rw [hN0] at hy; exact (Option.some.inj hy).symm
        subst ey
        refine PE.imp (lc W2 pn xe p1 p2 tk) ?_
        rintro σ H1 Q1 ⟨ev, S1, g1, sl, w1, h1⟩
        cases e : ev[0]? with
        | none => simp only [e] at h1; exact h1.elim
        | some s0 =>
          cases s0 with
          | th =>
            simp only [e] at h1
            obtain ⟨j, e1, e2, e3, e4⟩ := sl.at' 0 _ e
            cases e1
            refine ⟨e2, w1.sub _ _ e3, S1, g1, by rw [cap_at] at e4; exact e4, wld_at.1 w1, ?_⟩
            rw [aft_at] at h1
            cases z : th S1 with
            | ok x S2 => rw [z] at h1; exact fun v H' g' f' w' r => h1 v H' g' f' w' (.of (by rw [rep_at]; exact r))
            | exc x S2 => rw [z] at h1; exact h1
            | bad => rw [z] at h1; exact h1
          | no => simp only [e] at h1; exact h1.elim
          | va _ => simp only [e] at h1; exact h1.elim
          | ow _ => simp only [e] at h1; exact h1.elim }
  have hl : 0 < d.N.length := by
    cases e : d.N with
    | nil => rw [e] at hN0; cases hN0
    | cons _ _ => simp
  have sl0 : Slots (t.at i) (Sl.th :: List.replicate (d.N.length - 1) Sl.no) g0 (L2.start d.N [.ref i.f]) H := by
    refine ⟨by unfold L2.start; simp, fun j s e => ?_, fun j j2 l l' p e _ _ _ => ?_⟩
    · cases j with
      | zero => simp at e; subst e; exact ⟨i, rfl, rfl, hG, by rw [cap_at]; exact cap⟩
      | succ j =>
        simp only [List.getElem?_cons_succ, List.getElem?_replicate] at e
        split at e
        · cases e; trivial
        · cases e
    · cases j with
      | zero => simp at e
      | succ j =>
        simp only [List.getElem?_cons_succ, List.getElem?_replicate] at e
        split at e <;> cases e
  refine ⟨_, soundTs (G.at i th) X ⟨rfl, rfl⟩ g d.body _ hc, g0, H, _, S0, g0, ⟨sl0, wld_at.2 w, Frm.refl _ _, fun j l p e _ => ?_⟩, ?_⟩
  · cases j with
    | zero => simp at e
    | succ j =>
      simp only [List.getElem?_cons_succ, List.getElem?_replicate] at e
      split at e <;> cases e
  · unfold runT at h
    cases z : evTs { C with th := th } g d.body (Sl.th :: List.replicate (d.N.length - 1) Sl.no) S0 with
    | ok fl S1 =>
      rw [z] at h
      cases fl with
      | nx ev => exact fun σ' H' g' b _ => h _ H' g' b.fr (wld_at.1 b.w) (by simp only [Rep])
      | rt x => exact fun v H' g' f1 w1 r1 => h v H' g' f1 (wld_at.1 w1) (by rw [rep_at] at r1; exact r1)
      | bk ev => exact h.elim
      | ct ev => exact h.elim
    | exc e S1 =>
      rw [z] at h
      exact fun cls dd σ' H' g' f1 w1 r1 => h cls dd H' g' f1 (wld_at.1 w1) (by rw [exR_at] at r1; exact r1)
    | bad => rw [z] at h; exact h.elim
theorem tk_bad {f : Nat} {nm : Str} {d : Fd} {a : Addr} {fd : FuncData} (h : TkOk t tb d a fd) (hm : T.mg nm = some (.ref a)) (hn : d.nm = nm) {C : Cl} (hC : ∀ th S, C.fnT f th S = .bad) : FnTF t T C k f nm := by
  obtain ⟨st, qual, y, F, S, hd1, hd2, hc, hB⟩ := h.ex
  have hN0 : d.N[0]? = some y := by
    have := S.pre
    cases e : d.N with
    | nil => rw [e] at this; cases this
    | cons x r => rw [e] at this; simp at this; rw [this]; rfl
  have hv : Vis (defScope st) y := by
    rcases S.par y (by simp) with z | z
    · exact .inl z
    · exact .inr (.inl z)
  refine ⟨a, fd, d.N, y, qual, st, hm, by rw [← hn]; exact F, S, hB, hN0, hv, hd1, hd2, fun A outer s H Q E i th S0 g0 hr lc cap hG w h => ?_⟩
  rw [hC] at h; exact h.elim
/-- what the written part must give -/
structure Facts (t : Tp) (tb : Tab) (T : Top) (F : Nat → Option Fd) : Prop where
  top : TopOk t
  fn : ∀ f nm np, tb.fn f = some (nm, np) → ∃ d a fd, F f = some d ∧ d.ps.length = np ∧ T.mg nm = some (.ref a) ∧ PySem.W.keepIn t.K (.ref a) = true ∧ DefOk t tb T d a fd ∧
    (∀ n ks perm, (f, n, ks, perm) ∈ tb.kf → KBn t.K fd d.ps n ks (fun us ws => us ++ perm.filterMap (ws[·]?)) (fun vs zs => vs ++ perm.filterMap (zs[·]?)) ∧ n + ks.length = np ∧ n + perm.length = np)
  cls : ∀ c nm, tb.cls c = some nm → ∃ A, t.ct c = some A ∧ ClsX t T A nm
  mt : ∀ c f m np, tb.mt c f = some (m, np) → ∃ d A a fd, F f = some d ∧ d.ps.length = np ∧ t.ct c = some A ∧ Cls t.K A ∧ Meth t.K A m a ∧ PySem.W.fnIn t.K a = true ∧ DefOk t tb T d a fd ∧
    (∀ ks perm, (c, f, ks, perm) ∈ tb.kw → KBn t.K fd d.ps 1 ks (fun us ws => us ++ perm.filterMap (ws[·]?)) (fun vs zs => vs ++ perm.filterMap (zs[·]?)) ∧ ks.length + 1 = np ∧ perm.length + 1 = np)
  ats : ∀ c A f, t.ct c = some A → f ∈ tb.ats → Cls t.K A ∧ NoAttr t.K A f
  gl : ∀ x d, tb.gl.lookup x = some d → ∃ v u, T.mg x = some u ∧ RelV v u ∧ ∀ g, Rep t g d v
  bn : ∀ x ∈ bnames, T.mg x = none
  ex : ∀ c nm ns, tb.ex[c]? = some (nm, ns) → ExcF t T c nm ns
  exm : ∀ c c' A A', t.et c = some A → t.et c' = some A' → PySem.W.exmOne t.K (.ref A) (.ref A') = some (c == c' || c' == 0)
  exf : ∀ c A f, t.et c = some A → (tb.ex.any fun p => p.2.contains f) = true → XfC t.K A ∧ PySem.W.findIn t.K (.ref A) f = some none
  tbu : ∀ p ∈ t.tabs, ∀ q ∈ t.tabs, p.1 = q.1 → p.2 = q.2
  ft : ∀ f nm, tb.ft f = some nm → ∃ d a fd, F f = some d ∧ d.nm = nm ∧ T.mg nm = some (.ref a) ∧ TkOk t tb d a fd
/-- the whole program, calls n deep -/
theorem glob_of {F : Nat → Option Fd} {gas : Nat} (X : Facts t tb T F) : ∀ n, Glob t tb T (sem F gas n) (4 * n + 2)
  | 0 => ⟨X.top, fun f nm np h => by
      obtain ⟨d, a, fd, h1, rfl, h2, h3, h4, h5⟩ := X.fn f nm np h
      exact ⟨a, fd, d.ps, h2, h3, h4.bd, rfl, fnOk_bad fun _ _ _ _ => rfl, h5⟩, X.cls, fun c f m np h => by
      obtain ⟨d, A, a, fd, h1, rfl, h2, h3, h4, h5, h6, h7⟩ := X.mt c f m np h
      exact ⟨A, a, fd, d.ps, h2, h3, h4, h6.bd, rfl, fnOk_bad fun _ _ _ _ => rfl, h5, h7⟩, X.ats, X.gl, X.bn, X.ex, X.exm, X.exf, by omega, X.tbu, fun f nm h => by
      obtain ⟨d, a, fd, h1, h2, h3, h4⟩ := X.ft f nm h
      exact tk_bad h4 h3 h2 fun _ _ => rfl⟩
  | n + 1 => by
    have ih := glob_of (gas := gas) X n
    have go : ∀ {f : Nat} {d : Fd} {a : Addr} {fd : FuncData}, F f = some d → DefOk t tb T d a fd → FnOk T.P T.w t.K T.mg T.base (L2.CX T.P T.w) (4 * (n + 1) + 2) a fd d.ps (spF t (sem F gas (n + 1)) f d.ps.length) := fun {f d a fd} h1 h4 => by
      refine fnOk_of (C := sem F gas n) (k := 4 * n + 2) ih h4 (g := gas) fun l S hl => ?_
      simp only [sem, h1, hl]
      simp
    exact ⟨X.top, fun f nm np h => by
      obtain ⟨d, a, fd, h1, rfl, h2, h3, h4, h5⟩ := X.fn f nm np h
      exact ⟨a, fd, d.ps, h2, h3, h4.bd, rfl, go h1 h4, h5⟩, X.cls, fun c f m np h => by
      obtain ⟨d, A, a, fd, h1, rfl, h2, h3, h4, h5, h6, h7⟩ := X.mt c f m np h
      exact ⟨A, a, fd, d.ps, h2, h3, h4, h6.bd, rfl, go h1 h6, h5, h7⟩, X.ats, X.gl, X.bn, X.ex, X.exm, X.exf, by omega, X.tbu, fun f nm h => by
      obtain ⟨d, a, fd, h1, h2, h3, h4⟩ := X.ft f nm h
      exact tk_run (C := sem F gas n) (k := 4 * n + 2) ih h4 h3 h2 (g := gas) fun th S => by simp only [sem, h1]⟩
/-- one def of it -/
theorem glob_fn {F : Nat → Option Fd} {gas : Nat} (X : Facts t tb T F) (n : Nat) {f : Nat} {d : Fd} {a : Addr} {fd : FuncData} (h1 : F f = some d) (h4 : DefOk t tb T d a fd) : FnOk T.P T.w t.K T.mg T.base (L2.CX T.P T.w) (4 * n + 2) a fd d.ps (spF t (sem F gas n) f d.ps.length) := by
  cases n with
  | zero => exact fnOk_bad fun _ _ _ _ => rfl
  | succ n =>
    refine fnOk_of (C := sem F gas n) (k := 4 * n + 2) (glob_of (gas := gas) X n) h4 (g := gas) fun l S hl => ?_
    simp only [sem, h1, hl]
    simp
end
end Mp

set_option Elab.async false
set_option linter.all false
set_option maxRecDepth 100000
set_option autoImplicit false
set_option maxHeartbeats 4000000
namespace Mp
open PySem PySem.Spec L2
/-- a statement of a class's body -/
def inCls : Stmt → Nat → Stmt
  | .ClassDef _ _ _ b _ _ _ _ _ _ _, j => b.getD j (.Pass ⟨0, 0, 0, 0⟩)
  | s, _ => s
/-- a def of the program: of a class or of the module, its name, what it is, its text -/
structure FnC where
  cls : Option Nat
  m : Str
  qual : Str
  fd : Fd
  st : Stmt
/-- a class of exceptions: its name, the fields that its __init__ sets, its text -/
structure ExC where
  nm : Str
  ns : List Str
  qual : Str
  st : Stmt
structure Cfg where
  fs : List FnC
  cls : List Str
  gl : List (Str × D)
  ats : List Str
  kw : List (Nat × Nat × List Str × List Nat)
  ex : List ExC := []
  kf : List (Nat × Nat × List Str × List Nat) := []
def Cfg.F (c : Cfg) (f : Nat) : Option Fd := (c.fs[f]?).map (·.fd)
def Cfg.tab (c : Cfg) : Tab where
  fn := fun f => match c.fs[f]? with
    | some x => match x.cls with
      | none => if x.fd.tk then none else some (x.m, x.fd.ps.length)
      | some _ => none
    | none => none
  cls := fun k => c.cls[k]?
  gl := c.gl
  mt := fun k f => match c.fs[f]? with
    | some x => match x.cls with
      | none => none
      | some k' => if k' = k then some (x.m, x.fd.ps.length) else none
    | none => none
  ats := c.ats
  kw := c.kw
  kf := c.kf
  ex := c.ex.map fun x => (x.nm, x.ns)
  ft := fun f => match c.fs[f]? with
    | some x => match x.cls with
      | none => if x.fd.tk then some x.m else none
      | some _ => none
    | none => none
def Cfg.ct (c : Cfg) (K : PySem.W.Frag) (k : Nat) : Option Addr := (c.cls[k]?).map (He.ga K)
def Cfg.et (c : Cfg) (K : PySem.W.Frag) (k : Nat) : Option Addr := (c.ex[k]?).map fun x => He.ga K x.nm
def Cfg.at_ (c : Cfg) (x : FnC) : Str × Option Str := match x.cls with
  | none => (x.m, none)
  | some k => (c.cls.getD k "", some x.m)
/-- the code object of a function and its table -/
def tabA (K : PySem.W.Frag) (a : Addr) : Option (Addr × Addr) := match K.lookup a with
  | some ⟨_, _, .func fd, _⟩ => (match fd.code with
    | .ref cc => (match K.lookup cc with
      | some ⟨_, _, .fields vs, _⟩ => (match (vs[11]? : Option Value) with
        | some (.ref P) => some (cc, P)
        | _ => none)
      | _ => none)
    | _ => none)
  | _ => none
def Cfg.lamL (c : Cfg) : List FnC := c.fs.filter fun x => x.fd.lm
def Cfg.tbs (c : Cfg) (K : PySem.W.Frag) : List (FnC × Addr × Addr) := c.lamL.filterMap fun x => (tabA K (He.fAd K (c.at_ x))).map fun p => (x, p)
def Cfg.tabs (c : Cfg) (K : PySem.W.Frag) : List (Addr × Str) := (c.tbs K).map fun p => (p.2.2, (p.1.qual ++ ".<locals>.") ++ "<lambda>")
def Cfg.tp (c : Cfg) (K : PySem.W.Frag) : Tp := ⟨K, c.ct K, c.et K, c.tabs K, none⟩
/-- the written part without tables of code objects -/
def isTabO (o : Obj) : Bool := match o with
  | ⟨.none, _, .fields _, _⟩ => true
  | _ => false
def nT (K : PySem.W.Frag) : PySem.W.Frag := K.filter fun p => !isTabO p.2
def MemIn (K : PySem.W.Frag) (h : Heap) : Prop := ∀ p ∈ K, h.get? p.1 = some p.2
theorem MemIn.nT {K : PySem.W.Frag} {h : Heap} (m : MemIn K h) : (nT K).In h := fun a o e => m (a, o) (List.mem_filter.mp (PySem.W.mem_of_lookupK e)).1
theorem nT_no {K : PySem.W.Frag} {a : Addr} {o : Obj} (e : (nT K).lookup a = some o) : isTabO o = false := by
  have := (List.mem_filter.mp (PySem.W.mem_of_lookupK e)).2
  simpa using this
/-- an empty table -/
def emptyTab (K : PySem.W.Frag) (P : Addr) : Bool := match K.lookup P with
  | some ⟨.none, none, .fields vs, sl⟩ => vs.isEmpty && sl.isEmpty
  | _ => false
theorem emptyTab_ok {K : PySem.W.Frag} {P : Addr} {h : Heap} (m : MemIn K h) (e : emptyTab K P = true) : h.get? P = some { cls := .none, data := .fields #[] } := by
  unfold emptyTab at e
  split at e
  · rename_i vs sl q
    simp only [Bool.and_eq_true, Array.isEmpty_iff] at e
    have z := m _ (PySem.W.mem_of_lookupK q)
    rw [e.1, e.2] at z
    exact z
  · cases e
def distB : List Addr → Bool
  | [] => true
  | a :: r => !(r.contains a) && distB r
def Cfg.lamB (c : Cfg) (K : PySem.W.Frag) : Bool := (c.lamL.all fun x => match tabA (nT K) (He.fAd (nT K) (c.at_ x)) with
  | some (cc, P) => PySem.W.codeHdIn (nT K) cc P && emptyTab K P
  | none => false) && distB ((c.tbs (nT K)).map fun p => p.2.2)
theorem dist_ok {α : Type} {f : α → Addr} : ∀ {l : List α}, distB (l.map f) = true → ∀ x ∈ l, ∀ y ∈ l, f x = f y → x = y
  | [], _, x, hx, _, _, _ => by cases hx
  | a :: r, h, x, hx, y, hy, e => by
    simp only [List.map_cons, distB, Bool.and_eq_true, Bool.not_eq_true'] at h
    have no : ∀ z ∈ r, f z ≠ f a := fun z hz q => by
      have : (r.map f).contains (f a) = true := List.contains_iff_mem.mpr (by rw [← q]; exact List.mem_map_of_mem hz)
      rw [h.1] at this; cases this
    rcases List.mem_cons.mp hx with z1 | z1 <;> rcases List.mem_cons.mp hy with z2 | z2
    · rw [z1, z2]
    · subst z1; exact absurd e.symm (no y z2)
    · subst z2; exact absurd e (no x z1)
    · exact dist_ok h.2 x z1 y z2 e
def Cfg.dd (c : Cfg) (x : FnC) : He.DefD := ⟨c.at_ x, x.m, x.qual, defArgs x.st, defBody x.st, defScope x.st, [], []⟩
def ExC.dd (x : ExC) : He.DefD := ⟨(x.nm, some "__init__"), "__init__", x.qual, defArgs x.st, defBody x.st, defScope x.st, [], []⟩
def Cfg.exI (c : Cfg) : List ExC := c.ex.filter fun x => !x.ns.isEmpty
def Cfg.all (c : Cfg) : List He.DefD := c.fs.map c.dd ++ c.exI.map ExC.dd
def eqB (a b : Option Bool) : Bool := decide (a = b)
theorem eqB_ok {a b : Option Bool} (h : eqB a b = true) : a = b := of_decide_eq_true h
def clsB (K : PySem.W.Frag) (n : Str) : Bool :=
  (He.Fa.glo n).ok K && (He.Fa.cls n).ok K && PySem.W.makesIn K (He.ga K n) && PySem.W.keepIn K (.ref (He.ga K n)) &&
  eqB (PySem.W.subIn K (.type "tuple") (.ref (He.ga K n))) (some false) && eqB (PySem.W.subIn K (.type "list") (.ref (He.ga K n))) (some false) && eqB (PySem.W.mroIn K (He.ga K n) (.type "object")) (some true) &&
  (He.eqO (PySem.W.findIn K (.ref (He.ga K n)) "__ne__") (some (some (.builtin "object.__ne__"))) || He.eqO (PySem.W.findIn K (.ref (He.ga K n)) "__eq__") (some (some (.builtin "object.__eq__"))))
def clsB2 (K : PySem.W.Frag) (n : Str) : Bool :=
  He.eqO (PySem.W.findIn K (.ref (He.ga K n)) "__class__") (some (some (.builtin "object.__class__"))) && He.eqO (PySem.W.specialIn K (.builtin "object.__class__") "__get__") (some (some (.builtin "getset_descriptor.__get__"))) &&
  eqB (PySem.W.takesIn K (.builtin "object.__class__")) (some true) &&
  (["NoneType", "bool", "int", "str", "list", "tuple", "dict"].all fun y => eqB (PySem.W.kitOne K (.type y) (.ref (He.ga K n))) (some false)) &&
  (["int", "bool", "str", "list", "tuple"].all fun y => eqB (PySem.W.kitOne K (.ref (He.ga K n)) (.type y)) (some false))
def valB : D → Value → Bool
  | .int i, .int j _ => decide (i = j)
  | .str x, .str y _ => decide (x = y)
  | _, _ => false
def valsB : List D → List Value → Bool
  | [], [] => true
  | d :: r, v :: q => valB d v && valsB r q
  | _, _ => false
/-- a written tuple -/
def tupB (K : PySem.W.Frag) (a : Addr) (l : List D) : Bool := match K.lookup a with
  | some o => decide (o.cls = .type "tuple") && (match o.data with
    | .seq its _ => decide (its.size ≤ sizeLine) && valsB l its.toList
    | _ => false)
  | none => false
theorem valsB_ok {t : Tp} {g : Gh} : ∀ {l : List D} {vs : List Value}, valsB l vs = true → ∃ xs, Vals xs vs ∧ Reps t g l xs
  | [], [], _ => ⟨[], .nil, .nil⟩
  | [], _ :: _, h => by simp [valsB] at h
  | _ :: _, [], h => by simp [valsB] at h
  | d :: r, v :: q, h => by
    simp only [valsB, Bool.and_eq_true] at h
    obtain ⟨xs, h1, h2⟩ := valsB_ok (t := t) (g := g) h.2
    have h0 := h.1
    unfold valB at h0
    split at h0
    · obtain rfl := of_decide_eq_true h0
      exact ⟨_, .cons (show RelV (.int _) _ from ⟨_, rfl⟩) h1, .cons (by simp only [Rep]) h2⟩
    · obtain rfl := of_decide_eq_true h0
      exact ⟨_, .cons (show RelV (.str _) _ from ⟨_, rfl⟩) h1, .cons (by simp only [Rep]) h2⟩
    · cases h0
theorem tupB_ok {t : Tp} {a : Addr} {l : List D} (h : tupB t.K a l = true) (g : Gh) : Rep t g (.tup l) (.ref a) := by
  unfold tupB at h
  split at h
  · rename_i o ho
    simp only [Bool.and_eq_true, decide_eq_true_eq] at h
    obtain ⟨hc, h⟩ := h
    split at h
    · rename_i its n hd
      simp only [Bool.and_eq_true, decide_eq_true_eq] at h
      obtain ⟨xs, h1, h2⟩ := valsB_ok (t := t) (g := g) h.2
      simp only [Rep]
      exact ⟨a, xs, rfl, .inr ⟨o, its, n, ho, hc, hd, h.1, h1⟩, h2⟩
    · cases h
  · cases h
def glB (K : PySem.W.Frag) : Str × D → Bool
  | (x, .int i) => (He.Fa.int x i).ok K
  | (x, .str z) => (He.Fa.str x z).ok K
  | (x, .tup l) => (He.Fa.glo x).ok K && tupB K (He.ga K x) l
  | _ => false
def fnB (c : Cfg) (K : PySem.W.Frag) (x : FnC) : Bool := match x.cls with
  | none => (He.Fa.glo x.m).ok K
  | some k => decide (k < c.cls.length) && (He.Fa.meth (c.cls.getD k "") x.m).ok K && PySem.W.fnIn K (He.ma K (He.ga K (c.cls.getD k "")) x.m)
def pairB (c : Cfg) (K : PySem.W.Frag) : Bool := (List.range c.cls.length).all fun i => (List.range c.cls.length).all fun j =>
  eqB (PySem.W.kitOne K (.ref (He.ga K (c.cls.getD i ""))) (.ref (He.ga K (c.cls.getD j "")))) (some (i == j))
/-- a class of exceptions over ValueError with an __init__ of its own -/
def oexB (K : PySem.W.Frag) (C : Addr) : Bool := (match K.lookup C with
  | some ⟨.type "type", _, .cls cd, sl⟩ => (match cd.mro, sl.toList with
    | .ref C' :: bm, [_, _, _, _, some (.builtin n), _] => decide (C' = C) && decide (n = "ValueError.__new__") && !cd.hasDel && cd.hasDict && PySem.HandSPX.refsVE bm
    | _, _ => false)
  | _ => false) && He.eqO (PySem.W.findIn K (.ref C) "__setattr__") (some (some (.builtin "object.__setattr__"))) && eqB (PySem.W.subIn K (.ref C) (.type "BaseException")) (some true) && decide (PySem.W.typeIn K (.ref C) = some (.type "type")) && PySem.W.keepIn K (.ref C)
theorem oexB_ok {K : PySem.W.Frag} {C : Addr} (h : oexB K C = true) : OexC K C := by
  unfold oexB at h
  simp only [Bool.and_eq_true, decide_eq_true_eq] at h
  obtain ⟨⟨⟨⟨h1, h2⟩, h3⟩, h4⟩, h5⟩ := h
  refine ⟨?_, He.eqO_ok h2, eqB_ok h3, h4, h5⟩
  split at h1
  case h_2 => cases h1
  rename_i dd cd sl hK
  split at h1
  case h_2 => cases h1
  rename_i C' bm k0 k1 k2 k3 n k5 hm hs
  simp only [Bool.and_eq_true, decide_eq_true_eq, Bool.not_eq_true'] at h1
  obtain ⟨⟨⟨⟨rfl, rfl⟩, hdel⟩, hd⟩, hr⟩ := h1
  obtain ⟨nm, bs, mro, ns, qn, hdd, sn, sub, ab, col, del⟩ := cd
  dsimp only at hm hdel hd
  subst hm hdel hd
  have e : sl = #[k0, k1, k2, k3, some (.builtin "ValueError.__new__"), k5] := by
    obtain ⟨l⟩ := sl
    exact congrArg Array.mk hs
  subst e
  exact ⟨nm, qn, ns, bs, bm, sn, sub, ab, col, dd, k0, k1, k2, k3, k5, hK, hr⟩
def keB (K : PySem.W.Frag) (B : Addr) : Bool := He.eqO (PySem.W.specialIn K (.ref B) "__getattribute__") (some (some (.builtin "type.__getattribute__"))) && PySem.W.readsIn K B (.type "type") && (match PySem.W.findCls K (.ref B) (.type "type") "__init__" with
  | some (.val (.builtin n)) => decide (n = "ValueError.__init__")
  | _ => false)
theorem keB_ok {K : PySem.W.Frag} {B : Addr} (h : keB K B = true) : KeB K B := by
  unfold keB at h
  simp only [Bool.and_eq_true] at h
  obtain ⟨⟨h1, h2⟩, h3⟩ := h
  refine ⟨He.eqO_ok h1, h2, ?_⟩
  split at h3
  · rename_i n e
    rw [e, of_decide_eq_true h3]
  · cases h3
def excB (c : Cfg) (K : PySem.W.Frag) (x : ExC) : Bool := (He.Fa.glo x.nm).ok K && xfB K (He.ga K x.nm) && (c.ex.all fun y => y.ns.all fun f => He.eqO (PySem.W.findIn K (.ref (He.ga K x.nm)) f) (some none)) &&
  (x.ns.isEmpty || (oexB K (He.ga K x.nm) && He.eqO (PySem.W.findIn K (.ref (He.ga K x.nm)) "__init__") (some (some (.ref (He.ma K (He.ga K x.nm) "__init__")))) && decide (PySem.W.typeIn K (.ref (He.ma K (He.ga K x.nm) "__init__")) = some (.type "function"))))
def exmB (c : Cfg) (K : PySem.W.Frag) : Bool := (List.range c.ex.length).all fun i => (List.range c.ex.length).all fun j =>
  eqB (PySem.W.exmOne K (.ref ((c.et K i).getD 0)) (.ref ((c.et K j).getD 0))) (some (i == j || j == 0))
def baseB (c : Cfg) (K : PySem.W.Frag) : Bool := match c.ex with
  | b :: _ => keB K (He.ga K b.nm)
  | [] => true
def Cfg.okX (c : Cfg) (K : PySem.W.Frag) : Bool := c.ex.all (excB c K) && exmB c K && baseB c K
def Cfg.okB (c : Cfg) (K : PySem.W.Frag) : Bool := c.fs.all (fnB c K) && c.cls.all (clsB K) && c.cls.all (clsB2 K) && pairB c K && (c.cls.all fun n => c.ats.all fun f => (He.Fa.noat n f).ok K) && c.gl.all (glB K) && bnames.all fun x => (He.Fa.free x).ok K
/-! ### the Hook -/
def Cfg.obs (c : Cfg) (K : PySem.W.Frag) : He.AlD := (c.okB K && (c.okX K && c.all.all fun d => d.ok K), c.all.map fun d => He.fnW K d.at_)
def Cfg.val (c : Cfg) : He.AlD := (true, c.all.map fun d => d.val)
def Cfg.obs2 (c : Cfg) (K : PySem.W.Frag) : He.AlD := ((c.obs (nT K)).1 && c.lamB K, (c.obs (nT K)).2)
def Cfg.obsG (c : Cfg) (n : Nat) (g : Addr → Option Obj) : He.AlD := c.obs2 (He.frG g (cStatics :: He.asD g n))
theorem frG_mem {h : Heap} {as : List Addr} : MemIn (He.frG h.get? as) h := fun p hp => by
  unfold He.frG at hp
  obtain ⟨a, _, e⟩ := List.mem_filterMap.mp hp
  cases q : h.get? a with
  | none => rw [q] at e; cases e
  | some o => rw [q] at e; cases e; exact q
def Cfg.hook (c : Cfg) (n : Nat) : PySem.W.Hook where
  α := He.AlD
  obs := fun s => c.obsG n s.heap.get?
  val := fun _ => c.val
  says := fun _ h => ∃ K : PySem.W.Frag, MemIn K h ∧ c.obs2 K = c.val
  of := fun _ _ e => ⟨_, frG_mem, e⟩
  keeps := fun _ _ _ ⟨K, hK, e⟩ k => ⟨K, fun p hp => k _ _ (hK p hp), e⟩
theorem Cfg.obsG_eq {c : Cfg} {n : Nat} {g : Addr → Option Obj} {s : Shared} (h : ∀ a, g a = s.heap.get? a) : c.obsG n g = (c.hook n).obs s := by
  have e : g = s.heap.get? := funext h
  rw [e] <;> rfl
/-- what is to be shown of each def's text -/
structure FnG (c : Cfg) (x : FnC) : Prop where
  nm : x.fd.nm = x.m
  sc : FnScope x.fd.N x.fd.ps (defScope x.st)
  ch : chkTs c.tab ⟨x.fd.N, defScope x.st, x.fd.lm, x.fd.tk⟩ x.fd.body (defBody x.st) = true
  fl : x.fd.tk = true → x.fd.lm = false ∧ x.cls = none ∧ ∃ y, x.fd.ps = [y] ∧ (y == ("__debug__" : Str)) = false ∧ (y == ("__classdict__" : Str)) = false
  bd : ∀ (kV doc pm : Value) (an : Option Addr) (cdv ct : Value) (us : List Value), us.length = x.fd.ps.length → bindArgs (PySem.W.fnOf x.m x.qual (defArgs x.st) (defBody x.st) (defScope x.st) .none kV doc pm an cdv ct) ⟨us, []⟩ = pure (x.fd.ps.zip us)
structure KwG (c : Cfg) (e : Nat × Nat × List Str × List Nat) : Prop where
  bd : ∀ x, c.fs[e.2.1]? = some x → ∀ (kV doc pm : Value) (an : Option Addr) (cdv ct : Value) (us ws : List Value), us.length = 1 → ws.length = e.2.2.1.length → bindArgs (PySem.W.fnOf x.m x.qual (defArgs x.st) (defBody x.st) (defScope x.st) .none kV doc pm an cdv ct) ⟨us, e.2.2.1.zip ws⟩ = pure (x.fd.ps.zip (us ++ e.2.2.2.filterMap (ws[·]?)))
  l1 : ∀ x, c.fs[e.2.1]? = some x → e.2.2.1.length + 1 = x.fd.ps.length ∧ e.2.2.2.length + 1 = x.fd.ps.length
structure KfG (c : Cfg) (e : Nat × Nat × List Str × List Nat) : Prop where
  bd : ∀ x, c.fs[e.1]? = some x → ∀ (kV doc pm : Value) (an : Option Addr) (cdv ct : Value) (us ws : List Value), us.length = e.2.1 → ws.length = e.2.2.1.length → bindArgs (PySem.W.fnOf x.m x.qual (defArgs x.st) (defBody x.st) (defScope x.st) .none kV doc pm an cdv ct) ⟨us, e.2.2.1.zip ws⟩ = pure (x.fd.ps.zip (us ++ e.2.2.2.filterMap (ws[·]?)))
  l1 : ∀ x, c.fs[e.1]? = some x → e.2.1 + e.2.2.1.length = x.fd.ps.length ∧ e.2.1 + e.2.2.2.length = x.fd.ps.length
/-- what is to be shown of the text of an exception's class -/
structure ExG (c : Cfg) (x : ExC) : Prop where
  sc : FnScope ("self" :: x.ns) ("self" :: x.ns) (defScope x.st)
  ch : ∀ b, c.ex[0]? = some b → initB b.nm x.ns ("self" :: x.ns) (defScope x.st) (defBody x.st) = true
  bd : ∀ (kV doc pm : Value) (an : Option Addr) (cdv ct : Value) (us : List Value), us.length = (("self" : Str) :: x.ns).length → bindArgs (PySem.W.fnOf "__init__" x.qual (defArgs x.st) (defBody x.st) (defScope x.st) .none kV doc pm an cdv ct) ⟨us, []⟩ = pure ((("self" : Str) :: x.ns).zip us)
section
variable {c : Cfg} {K : PySem.W.Frag} {h : Heap} {T : Top}
theorem fun_of {x q : Str} {st : Stmt} {f : Addr} {fd : FuncData} (F : FunD K x q (defArgs st) (defBody st) (defScope st) [] [] f fd) : Fun K x q st f fd := by
  obtain ⟨oc, od, dV, kV, doc, pm, an, cdv, ct, osl, e, lk, hcd, hD, _⟩ := F.ex
  rcases hD with ⟨_, rfl⟩ | ⟨e, _⟩
  · exact ⟨⟨oc, od, kV, doc, pm, an, cdv, ct, osl, e, lk, hcd⟩, F.kp⟩
  · exact absurd rfl e
theorem vals_fm {zs : List V} {ws : List Value} (r : Vals zs ws) : ∀ perm : List Nat, Vals (perm.filterMap (zs[·]?)) (perm.filterMap (ws[·]?))
  | [] => .nil
  | i :: p => by
    have ih := vals_fm r p
    have key : ∀ {zs : List V} {ws : List Value} (i : Nat), Vals zs ws → (zs[i]? = none ∧ ws[i]? = none) ∨ ∃ z u, zs[i]? = some z ∧ ws[i]? = some u ∧ RelV z u := by
      intro zs ws i r
      induction r generalizing i with
      | nil => left; simp
      | cons a b ih => cases i with
        | zero => right; exact ⟨_, _, rfl, rfl, a⟩
        | succ i => simpa using ih i
    rw [List.filterMap_cons, List.filterMap_cons]
    rcases key i r with ⟨e1, e2⟩ | ⟨z, u, e1, e2, q⟩
    · rw [e1, e2]; exact ih
    · rw [e1, e2]; exact .cons q ih
theorem all_fun (hv : c.obs K = c.val) {d : He.DefD} (hd : d ∈ c.all) : ∃ fd, FunD K d.name d.qual d.params d.body d.scope (d.dvs K) (d.kws K) (He.fAd K d.at_) fd := by
  have c2 := (He.ba (He.ba (show (c.okB K && (c.okX K && c.all.all fun d => d.ok K)) = true from congrArg (fun z : He.AlD => z.1) hv)).2).2
  have e : c.all.map (fun d => He.fnW K d.at_) = c.all.map (fun d => d.val) := congrArg (fun z : He.AlD => z.2) hv
  obtain ⟨f, hf⟩ := List.getElem?_of_mem hd
  have e2 : (c.all.map fun d => He.fnW K d.at_)[f]? = (c.all.map fun d => d.val)[f]? := by rw [e]
  rw [List.getElem?_map, List.getElem?_map, hf] at e2
  exact He.DefD.funD (Option.some.inj e2) (List.all_eq_true.mp c2 d hd)
theorem fun_of2 (hv : c.obs K = c.val) {f : Nat} {x : FnC} (hf : c.fs[f]? = some x) : ∃ fd, Fun K x.m x.qual x.st (He.fAd K (c.at_ x)) fd := by
  obtain ⟨fd, F⟩ := all_fun hv (d := c.dd x) (List.mem_append_left _ (List.mem_map_of_mem (List.mem_of_getElem? hf)))
  exact ⟨fd, fun_of F⟩
theorem tabA_code {a cc P : Addr} {x qual : Str} {st : Stmt} {fd : FuncData} (F : Fun K x qual st a fd) (h : tabA K a = some (cc, P)) : fd.code = .ref cc := by
  obtain ⟨oc, od, kV, doc, pm, an, cdv, ct, osl, rfl, lk, hcd⟩ := F.ex
  unfold tabA at h
  rw [lk] at h
  dsimp only at h
  split at h
  · rename_i c0
    split at h
    · split at h
      · cases h; rfl
      · cases h
    · cases h
  · cases h
theorem defOk_of (hv : c.obs K = c.val) {f : Nat} {x : FnC} (hf : c.fs[f]? = some x) (g : FnG c x) (ht : x.fd.tk = false) (hl : x.fd.lm = true → ∃ cc P, tabA K (He.fAd K (c.at_ x)) = some (cc, P) ∧ LamX.TabB T.base T.mg cc P) : ∃ fd, Fun K x.m x.qual x.st (He.fAd K (c.at_ x)) fd ∧ DefOk (c.tp K) c.tab T x.fd (He.fAd K (c.at_ x)) fd := by
  obtain ⟨fd, F2⟩ := fun_of2 hv hf
  have hch := g.ch
  rw [ht] at hch
  refine ⟨fd, F2, ⟨x.st, x.qual, ?_, g.sc, hch, fun e => ?_⟩, F2.binds g.bd⟩
  · rw [g.nm]; exact F2
  · obtain ⟨cc, P, h1, h2⟩ := hl e
    refine ⟨cc, P, tabA_code F2 h1, ?_, h2⟩
    refine List.mem_map.mpr ⟨(x, cc, P), List.mem_filterMap.mpr ⟨x, List.mem_filter.mpr ⟨List.mem_of_getElem? hf, e⟩, by rw [h1]; rfl⟩, rfl⟩
theorem tkOk_of (hv : c.obs K = c.val) {f : Nat} {x : FnC} (hf : c.fs[f]? = some x) (g : FnG c x) (ht : x.fd.tk = true) : ∃ fd, TkOk (c.tp K) c.tab x.fd (He.fAd K (c.at_ x)) fd := by
  obtain ⟨fd, F2⟩ := fun_of2 hv hf
  obtain ⟨hl, _, y, hy, d1, d2⟩ := g.fl ht
  have hch := g.ch
  have hsc := g.sc
  have hbd := F2.binds g.bd
  rw [hy] at hsc hbd
  rw [ht, hl] at hch
  exact ⟨fd, ⟨x.st, x.qual, y, by rw [g.nm]; exact F2, hsc, d1, d2, hch, hbd⟩⟩
theorem facts_of (KX : K.In h) (hns : h.Ns mainGlobals T.mg) (hv : c.obs K = c.val) (hF : ∀ (f : Nat) (x : FnC), c.fs[f]? = some x → FnG c x) (hk : ∀ e ∈ c.kw, KwG c e) (hkf : ∀ e ∈ c.kf, KfG c e) (hx : ∀ x ∈ c.ex, x.ns ≠ [] → ExG c x)
    (hlam : ∀ x ∈ c.fs, x.fd.lm = true → ∃ cc P, tabA K (He.fAd K (c.at_ x)) = some (cc, P) ∧ LamX.TabB T.base T.mg cc P) (hdist : distB ((c.tbs K).map fun p => p.2.2) = true) : Facts (c.tp K) c.tab T c.F := by
  have c1 := (He.ba (show (c.okB K && (c.okX K && c.all.all fun d => d.ok K)) = true from congrArg (fun z : He.AlD => z.1) hv)).1
  have c1x := (He.ba (He.ba (show (c.okB K && (c.okX K && c.all.all fun d => d.ok K)) = true from congrArg (fun z : He.AlD => z.1) hv)).2).1
  unfold Cfg.okX at c1x
  simp only [Bool.and_eq_true] at c1x
  obtain ⟨⟨x1, x2⟩, x3⟩ := c1x
  unfold Cfg.okB at c1
  simp only [Bool.and_eq_true] at c1
  obtain ⟨⟨⟨⟨⟨⟨k1, k2⟩, k2b⟩, k3⟩, k4⟩, k5⟩, k6⟩ := c1
  have kfn : ∀ {f : Nat} {x : FnC}, c.fs[f]? = some x → fnB c K x = true := fun hf => List.all_eq_true.mp k1 _ (List.mem_of_getElem? hf)
  have clsOk : ∀ n, n ∈ c.cls → clsB K n = true ∧ clsB2 K n = true := fun n hn => ⟨List.all_eq_true.mp k2 _ hn, List.all_eq_true.mp k2b _ hn⟩
  have ctE : ∀ {k : Nat} {A : Addr}, (c.tp K).ct k = some A → ∃ n, c.cls[k]? = some n ∧ A = He.ga K n := fun {k A} e => by
    have e' : (c.cls[k]?).map (He.ga K) = some A := e
    cases z : c.cls[k]? with
    | none => rw [z] at e'; cases e'
    | some n => rw [z] at e'; cases e'; exact ⟨n, rfl, rfl⟩
  have mkCls : ∀ {k : Nat} {n : Str}, c.cls[k]? = some n → Cls K (He.ga K n) ∧ ClsX (c.tp K) T (He.ga K n) n := fun {k n} e => by
    have z := (clsOk n (List.mem_of_getElem? e)).1
    unfold clsB at z
    simp only [Bool.and_eq_true, Bool.or_eq_true] at z
    obtain ⟨⟨⟨⟨⟨⟨⟨z1, z2⟩, z3⟩, z4⟩, z5⟩, z6⟩, z7⟩, z8⟩ := z
    refine ⟨He.cls_ok z2, He.glo_ok KX hns z1, z3, z4, He.cls_ok z2, eqB_ok z5, eqB_ok z6, eqB_ok z7, ?_⟩
    rcases z8 with z8 | z8
    · exact .inl (He.eqO_ok z8)
    · exact .inr (He.eqO_ok z8)
  have getD_of : ∀ {k : Nat} {n : Str}, c.cls[k]? = some n → c.cls.getD k "" = n := fun {k n} e => by
    rw [List.getD_eq_getElem?_getD, e]; rfl
  constructor
  · constructor
    · intro k A e
      obtain ⟨n, e1, rfl⟩ := ctE e
      have z := (clsOk n (List.mem_of_getElem? e1)).2
      have z0 := (clsOk n (List.mem_of_getElem? e1)).1
      unfold clsB at z0
      unfold clsB2 at z
      simp only [Bool.and_eq_true] at z z0
      obtain ⟨⟨⟨⟨z1, z2⟩, z3⟩, z4⟩, z5⟩ := z
      have a4 := fun y hy => eqB_ok (List.all_eq_true.mp z4 y hy)
      have a5 := fun y hy => eqB_ok (List.all_eq_true.mp z5 y hy)
      exact ⟨(mkCls e1).1, He.eqO_ok z1, He.eqO_ok z2, eqB_ok z3, eqB_ok z0.1.2, a4 _ (by simp), a4 _ (by simp), a4 _ (by simp), a4 _ (by simp), a4 _ (by simp), a4 _ (by simp), a5 _ (by simp), a5 _ (by simp), a5 _ (by simp), a5 _ (by simp), a5 _ (by simp), a4 _ (by simp)⟩
    · intro i j A B e1 e2
      obtain ⟨n, q1, rfl⟩ := ctE e1
      obtain ⟨m, q2, rfl⟩ := ctE e2
      have hi : i < c.cls.length := (List.getElem?_eq_some_iff.mp q1).1
      have hj : j < c.cls.length := (List.getElem?_eq_some_iff.mp q2).1
      unfold pairB at k3
      have z := List.all_eq_true.mp (List.all_eq_true.mp k3 i (List.mem_range.mpr hi)) j (List.mem_range.mpr hj)
      rw [getD_of q1, getD_of q2] at z
      exact eqB_ok z
  · intro f nm np e
    have e' : c.tab.fn f = some (nm, np) := e
    simp only [Cfg.tab] at e'
    cases z : c.fs[f]? with
    | none => rw [z] at e'; cases e'
    | some x =>
      rw [z] at e'
      cases zc : x.cls with
      | some k => simp only [zc] at e'; cases e'
      | none =>
        simp only [zc] at e'
        split at e'
        case isTrue => cases e'
        rename_i htk
        cases e'
        have kf := kfn z
        unfold fnB at kf
        rw [zc] at kf
        obtain ⟨fd, F2, dk⟩ := defOk_of (T := T) hv z (hF f x z) (by simpa using htk) (hlam x (List.mem_of_getElem? z))
        have ea : He.fAd K (c.at_ x) = He.ga K x.m := by unfold Cfg.at_; rw [zc]; rfl
        refine ⟨x.fd, He.ga K x.m, fd, by unfold Cfg.F; rw [z]; rfl, rfl, He.glo_ok KX hns kf, ?_, ?_, ?_⟩
        · have := F2.kp; rw [ea] at this; exact this
        · rw [← ea]; exact dk
        · intro n ks perm hm
          have kg := hkf _ hm
          refine ⟨⟨?_, ?_⟩, (kg.l1 x z).1, (kg.l1 x z).2⟩
          · intro s us ws _ l1 l2
            obtain ⟨oc, od, kV, doc, pm, an, cdv, ct, osl, rfl, lk, hcd⟩ := F2.ex
            exact .of_eq (kg.bd x z kV doc pm an cdv ct us ws l1 l2)
          · intro vs us zs ws r1 r2
            exact r1.append (vals_fm r2 perm)
  · intro k nm e
    have e' : c.cls[k]? = some nm := e
    refine ⟨He.ga K nm, ?_, (mkCls e').2⟩
    show (c.cls[k]?).map (He.ga K) = _
    rw [e']; rfl
  · intro k f m np e
    have e' : c.tab.mt k f = some (m, np) := e
    simp only [Cfg.tab] at e'
    cases z : c.fs[f]? with
    | none => rw [z] at e'; cases e'
    | some x =>
      rw [z] at e'
      cases zc : x.cls with
      | none => simp only [zc] at e'; cases e'
      | some k' =>
        simp only [zc] at e'
        split at e'
        case isFalse => cases e'
        rename_i hkk
        subst hkk
        cases e'
        have kf := kfn z
        unfold fnB at kf
        rw [zc] at kf
        simp only [Bool.and_eq_true] at kf
        obtain ⟨⟨f1, f2⟩, f3⟩ := kf
        have hlt := of_decide_eq_true f1
        have q : c.cls[k']? = some c.cls[k'] := List.getElem?_eq_getElem hlt
        have gd := getD_of q
        obtain ⟨fd, F2, dk⟩ := defOk_of (T := T) hv z (hF f x z) (by
          cases hq : x.fd.tk with
          | false => rfl
          | true => rw [((hF f x z).fl hq).2.1] at zc; cases zc) (hlam x (List.mem_of_getElem? z))
        have ea : He.fAd K (c.at_ x) = He.ma K (He.ga K c.cls[k']) x.m := by unfold Cfg.at_; rw [zc]; show He.ma K (He.ga K (c.cls.getD k' "")) x.m = _; rw [gd]
        rw [gd] at f2 f3
        rw [ea] at F2 dk
        refine ⟨x.fd, He.ga K c.cls[k'], _, fd, by unfold Cfg.F; rw [z]; rfl, rfl, ?_, (mkCls q).1, He.meth_ok f2, f3, dk, ?_⟩
        · show (c.cls[k']?).map (He.ga K) = _
          rw [q]; rfl
        · intro ks perm hm
          have kg := hk _ hm
          refine ⟨⟨?_, ?_⟩, (kg.l1 x z).1, (kg.l1 x z).2⟩
          · intro s us ws _ l1 l2
            obtain ⟨oc, od, kV, doc, pm, an, cdv, ct, osl, rfl, lk, hcd⟩ := F2.ex
            exact .of_eq (kg.bd x z kV doc pm an cdv ct us ws l1 l2)
          · intro vs us zs ws r1 r2
            exact r1.append (vals_fm r2 perm)
  · intro k A f e hm
    obtain ⟨n, q1, rfl⟩ := ctE e
    exact ⟨(mkCls q1).1, He.noat_ok (List.all_eq_true.mp (List.all_eq_true.mp k4 n (List.mem_of_getElem? q1)) f hm)⟩
  · intro x d e
    have hm : (x, d) ∈ c.gl := by
      have : ∀ l : List (Str × D), l.lookup x = some d → (x, d) ∈ l := by
        intro l
        induction l with
        | nil => intro e; simp at e
        | cons p r ih =>
          obtain ⟨y, v⟩ := p
          intro e
          simp only [List.lookup_cons] at e
          split at e
          · rename_i hxy
            cases e
            rw [eq_of_beq hxy]; exact List.mem_cons_self
          · exact List.mem_cons_of_mem _ (ih e)
      exact this _ e
    have z := List.all_eq_true.mp k5 _ hm
    unfold glB at z
    split at z
    · rename_i y i ee
      cases ee
      obtain ⟨t, ht⟩ := He.int_ok KX hns z
      exact ⟨.int i, _, ht, ⟨t, rfl⟩, fun g => by simp only [Rep]⟩
    · rename_i y i ee
      cases ee
      obtain ⟨t, ht⟩ := He.str_ok KX hns z
      exact ⟨.str i, _, ht, ⟨t, rfl⟩, fun g => by simp only [Rep]⟩
    · rename_i y l ee
      cases ee
      simp only [Bool.and_eq_true] at z
      exact ⟨.ref (He.ga K _), _, He.glo_ok KX hns z.1, rfl, fun g => tupB_ok (t := c.tp K) z.2 g⟩
    · cases z
  · intro x hx
    exact He.free_ok KX hns (List.all_eq_true.mp k6 x hx)
  · intro cc nm ns e
    have e' : (c.ex.map fun x => (x.nm, x.ns))[cc]? = some (nm, ns) := e
    rw [List.getElem?_map] at e'
    cases z : c.ex[cc]? with
    | none => rw [z] at e'; cases e'
    | some x =>
      rw [z] at e'
      cases e'
      have hm := List.mem_of_getElem? z
      have q := List.all_eq_true.mp x1 x hm
      unfold excB at q
      simp only [Bool.and_eq_true, Bool.or_eq_true] at q
      obtain ⟨⟨⟨q1, q2⟩, q3⟩, q4⟩ := q
      refine ⟨He.ga K x.nm, ?_, He.glo_ok KX hns q1, fun hne => ?_⟩
      · show (c.ex[cc]?).map (fun x => He.ga K x.nm) = _
        rw [z]; rfl
      · rcases q4 with q4 | q4
        · exact absurd (List.isEmpty_iff.mp q4) hne
        · simp only [decide_eq_true_eq] at q4
          obtain ⟨⟨r1, r2⟩, r3⟩ := q4
          have hfl : ∀ f ∈ x.ns, PySem.W.findIn K (.ref (He.ga K x.nm)) f = some none := fun f hf => He.eqO_ok (List.all_eq_true.mp (List.all_eq_true.mp q3 x hm) f hf)
          obtain ⟨fd, F⟩ := all_fun hv (d := x.dd) (List.mem_append_right _ (List.mem_map_of_mem (List.mem_filter.mpr ⟨hm, by cases zz : x.ns with | nil => exact absurd zz hne | cons _ _ => rfl⟩)))
          have F2 : Fun K "__init__" x.qual x.st (He.fAd K (x.nm, some "__init__")) fd := fun_of F
          have g := hx x hm hne
          cases zb : c.ex with
          | nil => rw [zb] at hm; cases hm
          | cons b rest =>
            have hb0 : c.ex[0]? = some b := by rw [zb]; rfl
            have kb : keB K (He.ga K b.nm) = true := by
              unfold baseB at x3
              rw [zb] at x3
              exact x3
            have gb : T.mg b.nm = some (.ref (He.ga K b.nm)) := by
              have q := List.all_eq_true.mp x1 b (List.mem_of_getElem? hb0)
              unfold excB at q
              simp only [Bool.and_eq_true] at q
              exact He.glo_ok KX hns q.1.1.1
            exact ⟨_, fd, _, oexB_ok r1, He.eqO_ok r2, r3, F2.binds g.bd, init_ok F2 g.sc (oexB_ok r1) gb (keB_ok kb) hfl (g.ch b hb0), xfB_ok q2, hfl⟩
  · intro i j A B e1 e2
    have e1' : c.et K i = some A := e1
    have e2' : c.et K j = some B := e2
    have lt : ∀ {i : Nat} {A : Addr}, c.et K i = some A → i < c.ex.length := fun {i A} e => by
      unfold Cfg.et at e
      cases z : c.ex[i]? with
      | none => rw [z] at e; cases e
      | some x => exact (List.getElem?_eq_some_iff.mp z).1
    unfold exmB at x2
    have z := List.all_eq_true.mp (List.all_eq_true.mp x2 i (List.mem_range.mpr (lt e1'))) j (List.mem_range.mpr (lt e2'))
    rw [e1', e2'] at z
    exact eqB_ok z
  · intro i A f e hf
    have e' : c.et K i = some A := e
    unfold Cfg.et at e'
    cases z : c.ex[i]? with
    | none => rw [z] at e'; cases e'
    | some x =>
      rw [z] at e'
      cases e'
      have q := List.all_eq_true.mp x1 x (List.mem_of_getElem? z)
      unfold excB at q
      simp only [Bool.and_eq_true] at q
      refine ⟨xfB_ok q.1.1.2, ?_⟩
      have hf' : ((c.ex.map fun x => (x.nm, x.ns)).any fun p => p.2.contains f) = true := hf
      rw [List.any_map] at hf'
      obtain ⟨y, hy, hyf⟩ := List.any_eq_true.mp hf'
      exact He.eqO_ok (List.all_eq_true.mp (List.all_eq_true.mp q.1.2 y hy) f (by simpa using hyf))
  · intro p hp r hr e
    obtain ⟨a, ha, rfl⟩ := List.mem_map.mp hp
    obtain ⟨b, hb, rfl⟩ := List.mem_map.mp hr
    rw [dist_ok (f := fun p : FnC × Addr × Addr => p.2.2) hdist a ha b hb e]
  · intro f nm e
    have e' : c.tab.ft f = some nm := e
    simp only [Cfg.tab] at e'
    cases z : c.fs[f]? with
    | none => rw [z] at e'; cases e'
    | some x =>
      rw [z] at e'
      cases zc : x.cls with
      | some k => simp only [zc] at e'; cases e'
      | none =>
        simp only [zc] at e'
        split at e'
        case isFalse => cases e'
        rename_i htk
        cases e'
        have kf := kfn z
        unfold fnB at kf
        rw [zc] at kf
        obtain ⟨fd, dk⟩ := tkOk_of hv z (hF f x z) htk
        have ea : He.fAd K (c.at_ x) = He.ga K x.m := by unfold Cfg.at_; rw [zc]; rfl
        exact ⟨x.fd, He.ga K x.m, fd, by unfold Cfg.F; rw [z]; rfl, (hF f x z).nm, He.glo_ok KX hns kf, by rw [← ea]; exact dk⟩
end
/-- the script as data -/
def scriptD (ns : List Int) : D := .lst (ns.map D.int)
theorem reps_ints {t : Tp} {g : Gh} : ∀ ns : List Int, Reps t g (ns.map D.int) (ns.map V.int)
  | [] => .nil
  | n :: ns => .cons (by simp only [Rep]) (reps_ints ns)
/-- the law's end -/
theorem walk_cfg {l : PySem.W.OpenLaw} {c : Cfg} {q : Program} {loose : List Str} {XP : (Str → Option Value) → Heap → Prop} {d : DefRec} {n gas dep f hk : Nat} {x : FnC} {p : Str}
    (hn : l.most = some n) (hn2 : n ≤ sizeLine) (hdf : d.params.defaults = []) (hr : Room (4 * dep + 2) callerA) (hdn : d.name = x.m)
    (hF : ∀ (f : Nat) (x : FnC), c.fs[f]? = some x → FnG c x) (hkw : ∀ e ∈ c.kw, KwG c e) (hkf : ∀ e ∈ c.kf, KfG c e) (hex : ∀ x ∈ c.ex, x.ns ≠ [] → ExG c x) (hx : c.fs[f]? = some x) (hxc : x.cls = none) (hxt : x.fd.tk = false) (hp : x.fd.ps = [p])
    (law : ∀ ns : List Int, ns.length ≤ n → (∀ z ∈ ns, Builtin.Int.intBits z ≤ 1048576) → ∃ S, (sem c.F gas dep).fn f [scriptD ns] [] [] [] = .ok (.bl true) S) :
    PySem.W.WalkO q loose XP (c.hook hk).says l.row.toRowW d [] (fun f vs => PySem.call f vs) := by
  refine Att.attach_callB hn hdf fun w s₀ s₁ mg mb fa o pm cd doc a vs ns G Y ho hd hcd hmg hobj hints hlen hbits hg => ?_
  obtain ⟨K0, KM, hv2⟩ := Y
  have KX : (nT K0).In s₁.heap := KM.nT
  have hv : c.obs (nT K0) = c.val := by
    have e1 : ((c.obs (nT K0)).1 && c.lamB K0) = true := congrArg (fun z : He.AlD => z.1) hv2
    have e2 : (c.obs (nT K0)).2 = c.all.map fun d => d.val := congrArg (fun z : He.AlD => z.2) hv2
    have e3 : (c.obs (nT K0)).1 = true := (He.ba e1).1
    exact Prod.ext e3 e2
  have hlB : c.lamB K0 = true := (He.ba (show ((c.obs (nT K0)).1 && c.lamB K0) = true from congrArg (fun z : He.AlD => z.1) hv2)).2
  generalize hK : nT K0 = K at KX hv
  unfold Cfg.lamB at hlB
  rw [hK] at hlB
  simp only [Bool.and_eq_true] at hlB
  obtain ⟨hl1, hdist⟩ := hlB
  have tabOf : ∀ y ∈ c.fs, y.fd.lm = true → ∃ cc P, tabA K (He.fAd K (c.at_ y)) = some (cc, P) ∧ PySem.W.codeHdIn K cc P = true ∧ emptyTab K0 P = true := fun y hy hlm => by
    have z := List.all_eq_true.mp hl1 y (List.mem_filter.mpr ⟨hy, hlm⟩)
    split at z
    · rename_i cc P e
      simp only [Bool.and_eq_true] at z
      exact ⟨cc, P, e, z.1, z.2⟩
    · cases z
  have tbsOf : ∀ y cc P, (y, cc, P) ∈ c.tbs K → PySem.W.codeHdIn K cc P = true ∧ emptyTab K0 P = true := fun y cc P hm => by
    obtain ⟨y', hy, e⟩ := List.mem_filterMap.mp hm
    obtain ⟨h1, h2⟩ := List.mem_filter.mp hy
    obtain ⟨cc', P', e1, e2, e3⟩ := tabOf y' h1 h2
    rw [e1] at e
    cases e
    exact ⟨e2, e3⟩
  obtain ⟨fd0, F0⟩ := fun_of2 hv hx
  have ea : He.fAd K (c.at_ x) = fa := by
    have z : c.at_ x = (x.m, none) := by unfold Cfg.at_; rw [hxc]
    rw [z]
    have kf : fnB c K x = true := by
      have c1 := (He.ba (show (c.okB K && (c.okX K && c.all.all fun d => d.ok K)) = true from congrArg (fun z : He.AlD => z.1) hv)).1
      unfold Cfg.okB at c1
      simp only [Bool.and_eq_true] at c1
      exact List.all_eq_true.mp c1.1.1.1.1.1.1 _ (List.mem_of_getElem? hx)
    unfold fnB at kf
    rw [hxc] at kf
    have := He.glo_ok KX G.T.g kf
    rw [hdn] at hmg
    rw [hmg] at this
    cases this; rfl
  rw [ea] at F0
  have hb : ∀ (s : Shared) (u : Value), BindsTo s fd0 ⟨[u], []⟩ [(p, u)] := fun s u => by
    obtain ⟨oc, od, kV, doc, pm, an, cdv, ct, osl, e1, lk, hcd⟩ := F0.ex
    rw [e1]
    have := (hF f x hx).bd kV doc pm an cdv ct [u] (by rw [hp]; rfl)
    rw [hp] at this
    exact .of_eq this
  refine LamX.law_callTs (K := K) (cs := (c.tbs K).map fun p => p.2) (sp := spF (c.tp K) (sem c.F gas dep) f 1) (CX := L2.CX l.prog w) (fd := fd0) KX G.T.g G.T.b G.T.builtins G.T.nolimit hg (fun r hm => ?_) (fun r hm => ?_) (fun r hm => ?_) G.T.bmain hobj hints (Nat.le_trans hlen hn2) hr (fun base KB nb TBs => ?_) hb (fun H hH hS => ?_) (fun H e s' z => ?_)
  · obtain ⟨⟨y, cc, P⟩, hm2, rfl⟩ := List.mem_map.mp hm
    exact emptyTab_ok KM (tbsOf y cc P hm2).2
  · obtain ⟨⟨y, cc, P⟩, hm2, rfl⟩ := List.mem_map.mp hm
    have e := emptyTab_ok KM (tbsOf y cc P hm2).2
    cases q : K.lookup P with
    | none => rfl
    | some ob =>
      have e2 := KX P ob q
      rw [e] at e2
      cases e2
      have := nT_no (K := K0) (by rw [hK]; exact q)
      cases this
  · obtain ⟨⟨y, cc, P⟩, hm2, rfl⟩ := List.mem_map.mp hm
    exact PySem.W.codeHd_of_K KX (tbsOf y cc P hm2).1
  · have fb : Facts (c.tp K) c.tab ⟨l.prog, w, mg, base⟩ c.F := facts_of (T := ⟨l.prog, w, mg, base⟩) KB nb hv hF hkw hkf hex (fun y hy hlm => by
      obtain ⟨cc, P, e1, _, _⟩ := tabOf y hy hlm
      refine ⟨cc, P, e1, TBs (cc, P) (List.mem_map.mpr ⟨(y, cc, P), ?_, rfl⟩)⟩
      exact List.mem_filterMap.mpr ⟨y, List.mem_filter.mpr ⟨hy, hlm⟩, by rw [e1]; rfl⟩) hdist
    have tf : c.tab.fn f = some (x.m, 1) := by
      simp only [Cfg.tab, hx, hxc, hp, hxt]
      rfl
    obtain ⟨d1, a1, fd1, q1, q2, q3, q4, q5, _⟩ := fb.fn f x.m 1 tf
    have ed : d1 = x.fd := by
      have : c.F f = some x.fd := by unfold Cfg.F; rw [hx]; rfl
      rw [this] at q1; cases q1; rfl
    subst ed
    have ea1 : a1 = fa := by
      have q3' : mg x.m = some (.ref a1) := q3
      rw [hdn] at hmg
      rw [q3'] at hmg; cases hmg; rfl
    subst ea1
    have efd : fd1 = fd0 := by
      obtain ⟨st, qual, Fx, _⟩ := q5.ex
      obtain ⟨oc, od, kV, doc, pm, an, cdv, ct, osl, e1, lk, hcd⟩ := F0.ex
      obtain ⟨oc', od', kV', doc', pm', an', cdv', ct', osl', e1', lk', hcd'⟩ := Fx.ex
      have lk2 := lk.symm.trans lk'
      injection lk2 with z; injection z with z1 z2 z3; injection z3 with z4; exact z4.symm
    subst efd
    have := glob_fn fb (gas := gas) dep q1 q5
    rw [hp] at this
    exact this
  · obtain ⟨S, hl⟩ := law ns hlen hbits
    have nTab : ∀ b o, H b = some o → (∀ ps, o ≠ .tbl ps) → ∀ r ∈ c.tabs K, r.1 ≠ b := fun b o e nt r hm z => by
      obtain ⟨⟨y, cc, P⟩, hm2, rfl⟩ := List.mem_map.mp hm
      have := hH (cc, P) (List.mem_map.mpr ⟨_, hm2, rfl⟩)
      have e2 : H P = some (.tbl #[]) := this
      have z' : P = b := z
      rw [z', e] at e2
      exact nt _ (Option.some.inj e2)
    let G0 : Hp := fun b => if (c.tabs K).any (fun r => r.1 == b) then none else H b
    have gs : ∀ b o, G0 b = some o → H b = some o := fun b o e => by
      have e' : (if (c.tabs K).any (fun r => r.1 == b) then none else H b) = some o := e
      split at e'
      · cases e'
      · exact e'
    have gk : ∀ b o, H b = some o → (∀ ps, o ≠ .tbl ps) → G0 b = some o := fun b o e nt => by
      show (if (c.tabs K).any (fun r => r.1 == b) then none else H b) = some o
      rw [if_neg (fun z => by
        obtain ⟨r, hr, er⟩ := List.any_eq_true.mp z
        exact nTab b o e nt r hr (eq_of_beq er))]; exact e
    refine ⟨[], ⟨G0, fun _ => none⟩, [scriptD ns], ⟨gs, fun n c e => by simp at e, fun n a e => by simp at e, fun n m a e => by simp at e, fun r hm => ?_⟩, .one ?_, rfl, ?_⟩
    · obtain ⟨⟨y, cc, P⟩, hm2, rfl⟩ := List.mem_map.mp hm
      refine ⟨?_, fun n e => by simp at e, #[], hH (cc, P) (List.mem_map.mpr ⟨_, hm2, rfl⟩), True.intro, fun pos cv e => ?_⟩
      · show (if (c.tabs K).any (fun r => r.1 == P) then none else H P) = none
        exact if_pos (List.any_eq_true.mpr ⟨_, List.mem_map.mpr ⟨(y, cc, P), hm2, rfl⟩, by simp⟩)
      · have z : codeAmong pos [] = some cv := e
        simp [codeAmong] at z
    · unfold scriptD
      simp only [Rep]
      refine ⟨a, ns.map V.int, rfl, ?_, reps_ints ns⟩
      rcases hS with (h | ⟨o, h⟩) | h
      · exact .inl (.inl (gk _ _ h (fun _ z => nomatch z)))
      · exact .inl (.inr ⟨o, gk _ _ h (fun _ z => nomatch z)⟩)
      · exact .inr h
    · rw [hl]
      intro v H' g' _ _ r
      simpa only [Rep] using r
  · obtain ⟨_, _, _, _, _, _, _, _, _, _, _, _, z⟩ := z
    exact z
end Mp

set_option Elab.async false
set_option linter.all false
set_option maxRecDepth 100000
set_option autoImplicit false
set_option maxHeartbeats 4000000
/-! Reckoning with what the language computes: wp. -/
namespace Mp
open PySem L2
/-- what is to hold where an exception leaves -/
class XPost where
  x : Exn → Store → Prop
/-- none does -/
@[reducible] def XF : XPost := ⟨fun _ _ => False⟩
instance (priority := low) xpDefault : XPost := XF
def wq {α : Type} [xp : XPost] (o : Out α) (P : α → Store → Prop) : Prop := match o with
  | .ok a S => P a S
  | .exc e S => xp.x e S
  | .bad => False
def wqO {α : Type} (o : Option α) (P : α → Prop) : Prop := match o with
  | some a => P a
  | none => False
theorem wq_congr {α : Type} {xp : XPost} {o o' : Out α} {P : α → Store → Prop} (h : o = o') : wq o P = wq o' P := by rw [h]
theorem wqO_congr {α : Type} {o o' : Option α} {P : α → Prop} (h : o = o') : wqO o P = wqO o' P := by rw [h]
section
variable {α β : Type} {xp : XPost}
@[simp] theorem wq_ok {a : α} {S : Store} {P : α → Store → Prop} : wq (.ok a S) P = P a S := rfl
@[simp] theorem wq_bad {P : α → Store → Prop} : wq (.bad : Out α) P = False := rfl
@[simp] theorem wq_bind {o : Out α} {f : α → Store → Out β} {P : β → Store → Prop} : wq (o.bind f) P = wq o fun a S => wq (f a S) P := by cases o <;> rfl
@[simp] theorem wq_of {o : Option α} {S : Store} {P : α → Store → Prop} : wq (.of o S) P = wqO o fun a => P a S := by cases o <;> rfl
@[simp] theorem wq_calm {o : Out α} {P : α → Store → Prop} : wq o.calm P = @wq _ XF o P := by cases o <;> rfl
@[simp] theorem wq_exc {e : Exn} {S : Store} {P : α → Store → Prop} : wq (.exc e S : Out α) P = xp.x e S := rfl
@[simp] theorem wqO_some {a : α} {P : α → Prop} : wqO (some a) P = P a := rfl
@[simp] theorem wqO_none {P : α → Prop} : wqO (none : Option α) P = False := rfl
@[simp] theorem wqO_map {o : Option α} {f : α → β} {P : β → Prop} : wqO (o.map f) P = wqO o fun a => P (f a) := by cases o <;> rfl
@[simp] theorem wqO_ite {c : Prop} [Decidable c] {a : α} {P : α → Prop} : wqO (if c then some a else none) P = (c ∧ P a) := by
  by_cases h : c <;> simp [h, wqO]
@[simp] theorem wq_iteB {c : Prop} [Decidable c] {o : Out α} {P : α → Store → Prop} : wq (if c then o else .bad) P = (c ∧ wq o P) := by
  by_cases h : c <;> simp [h, wq]
@[simp] theorem wq_ite {c : Prop} [Decidable c] {o o' : Out α} {P : α → Store → Prop} : wq (if c then o else o') P = (if c then wq o P else wq o' P) := by
  by_cases h : c <;> simp [h]
theorem wq.ok {o : Out α} {P : α → Store → Prop} (h : @wq _ XF o P) : ∃ a S, o = .ok a S ∧ P a S := by
  cases o with
  | ok a S => exact ⟨a, S, rfl, h⟩
  | exc _ _ => exact h.elim
  | bad => exact h.elim
theorem wq.of_eq {o : Out α} {a : α} {S : Store} {P : α → Store → Prop} (e : o = .ok a S) (h : P a S) : wq o P := by rw [e]; exact h
theorem wq.imp {o : Out α} {P Q : α → Store → Prop} (h : wq o P) (k : ∀ a S, P a S → Q a S) : wq o Q := by
  cases o with
  | ok a S => exact k a S h
  | exc _ _ => exact h
  | bad => exact h.elim
theorem wq.impx {xp' : XPost} {o : Out α} {P Q : α → Store → Prop} (h : @wq _ xp o P) (k : ∀ a S, P a S → Q a S) (kx : ∀ e S, xp.x e S → xp'.x e S) : @wq _ xp' o Q := by
  cases o with
  | ok a S => exact k a S h
  | exc e S => exact kx e S h
  | bad => exact h.elim
/-- what is said of all ends that there are -/
theorem wq.iff_of {o : Out α} {P : α → Store → Prop} (h : wq o P) : ∀ {Q : α → Store → Prop}, (∀ a S, P a S → Q a S) → wq o Q := fun k => h.imp k
end
/-! ### expressions -/
section
variable {C : Cl} {ev : Ev} {S : Store} {P : D → Store → Prop} {xp : XPost}
theorem q_var {i : Nat} : wq (evE C (.var i) ev S) P = wqO (getS ev i) fun d => P d S := by simp only [evE, wq_of]
theorem q_pk {i : Nat} : wq (evE C (.pk i) ev S) P = wqO (peekS ev i) fun d => P d S := by simp only [evE, wq_of]
theorem q_con {c : Const} : wq (evE C (.con c) ev S) P = wqO (conD c) fun d => P d S := by simp only [evE, wq_of]
theorem q_glo {x : Str} {d : D} : wq (evE C (.glo x d) ev S) P = P d S := by simp only [evE, wq_ok]
theorem q_bin {o : Operator} {a b : E} : wq (evE C (.bin o a b) ev S) P = wq (evE C a ev S) fun x S1 => wq (evE C b ev S1) fun y S2 => wqO (binD o x y) fun z => P z S2 := by simp only [evE, wq_bind, wq_of]
theorem q_neg {a : E} : wq (evE C (.neg a) ev S) P = wq (evE C a ev S) fun x S1 => wqO (negD x) fun z => P z S1 := by simp only [evE, wq_bind, wq_of]
theorem q_nt {a : E} : wq (evE C (.nt a) ev S) P = wq (evE C a ev S) fun x S1 => wqO (truD x) fun b => P (.bl (!b)) S1 := by simp only [evE, wq_bind, wq_of, wqO_map]
theorem q_cmp {o : CmpOp} {a b : E} : wq (evE C (.cmp o a b) ev S) P = wq (evE C a ev S) fun x S1 => wq (evE C b ev S1) fun y S2 => wqO (cmpD o x y) fun k => P (.bl k) S2 := by simp only [evE, wq_bind, wq_of, wqO_map]
theorem q_cmp2 {o o' : CmpOp} {a b c : E} : wq (evE C (.cmp2 o o' a b c) ev S) P = wq (evE C a ev S) fun x S1 => wq (evE C b ev S1) fun y S2 => wqO (cmpD o x y) fun k => if k then wq (evE C c ev S2) fun z S3 => wqO (cmpD o' y z) fun k' => P (.bl k') S3 else P (.bl false) S2 := by
  simp only [evE, wq_bind, wq_of, wqO_map, wq_ite, wq_ok]
theorem q_isN {a : E} : wq (evE C (.isN a) ev S) P = wq (evE C a ev S) fun x S1 => P (.bl (isNonD x)) S1 := by simp only [evE, wq_bind, wq_ok]
theorem q_isNN {a : E} : wq (evE C (.isNN a) ev S) P = wq (evE C a ev S) fun x S1 => P (.bl (!isNonD x)) S1 := by simp only [evE, wq_bind, wq_ok]
theorem q_and {a : E} {es : List E} : wq (evE C (.andE a es) ev S) P = wq (evE C a ev S) fun x S1 => wq (evAnd C x es ev S1) P := by simp only [evE, wq_bind]
theorem q_or {a : E} {es : List E} : wq (evE C (.orE a es) ev S) P = wq (evE C a ev S) fun x S1 => wq (evOr C x es ev S1) P := by simp only [evE, wq_bind]
theorem q_and0 {x : D} : wq (evAnd C x [] ev S) P = P x S := by simp only [evAnd, wq_ok]
theorem q_and1 {x : D} {e : E} {es : List E} : wq (evAnd C x (e :: es) ev S) P = wqO (truD x) fun k => if k then wq (evE C e ev S) fun y S1 => wq (evAnd C y es ev S1) P else P x S := by simp only [evAnd, wq_bind, wq_of, wq_ite, wq_ok]
theorem q_or0 {x : D} : wq (evOr C x [] ev S) P = P x S := by simp only [evOr, wq_ok]
theorem q_or1 {x : D} {e : E} {es : List E} : wq (evOr C x (e :: es) ev S) P = wqO (truD x) fun k => if k then P x S else wq (evE C e ev S) fun y S1 => wq (evOr C y es ev S1) P := by simp only [evOr, wq_bind, wq_of, wq_ite, wq_ok]
theorem q_ife {c a b : E} : wq (evE C (.ife c a b) ev S) P = wq (evE C c ev S) fun x S1 => wqO (truD x) fun k => if k then wq (evE C a ev S1) P else wq (evE C b ev S1) P := by simp only [evE, wq_bind, wq_of, wq_ite]
theorem q_tup {es : List E} : wq (evE C (.tupE es) ev S) P = wq (evEs C es ev S) fun l S1 => lineB l.length = true ∧ P (.tup l) S1 := by simp only [evE, wq_bind, wq_iteB, wq_ok]
theorem q_lst {es : List E} : wq (evE C (.lstE es) ev S) P = wq (evEs C es ev S) fun l S1 => lineB l.length = true ∧ P (.lst l) S1 := by simp only [evE, wq_bind, wq_iteB, wq_ok]
def lstO : D → Option (List D)
  | .lst l => some l
  | _ => none
theorem q_cel {a : E} : wq (evE C (.celE a) ev S) P = wq (evE C a ev S) fun x S1 => wqO (lstO x) fun l => P (.cel S1.length) (S1 ++ [.lst l]) := by
  simp only [evE, wq_bind]
  congr 1
  funext x S1
  cases x <;> rfl
theorem q_idx {a i : E} : wq (evE C (.idx a i) ev S) P = wq (evE C a ev S) fun x S1 => wq (evE C i ev S1) fun y S2 => wqO (idxD S2 x y) fun z => P z S2 := by simp only [evE, wq_bind, wq_of]
theorem q_slc {a : E} {lo hi : Option E} : wq (evE C (.slc a lo hi) ev S) P = wq (evE C a ev S) fun x S1 => wq (evO C lo ev S1) fun l S2 => wq (evO C hi ev S2) fun u S3 => wqO (slcD S3 x l u) fun z => P z S3 := by simp only [evE, wq_bind, wq_of]
theorem q_O0 {Q : Option Int → Store → Prop} : wq (evO C none ev S) Q = Q none S := by simp only [evO, wq_ok]
theorem q_O1 {e : E} {Q : Option Int → Store → Prop} : wq (evO C (some e) ev S) Q = wq (evE C e ev S) fun x S1 => wqO (intO x) fun i => Q i S1 := by simp only [evO, wq_bind, wq_of]
theorem q_att {a : E} {f : Str} : wq (evE C (.att a f) ev S) P = wq (evE C a ev S) fun x S1 => wqO (attD S1 f x) fun z => P z S1 := by simp only [evE, wq_bind, wq_of]
theorem q_bcl {b : Bi} {es : List E} : wq (evE C (.bcl b es) ev S) P = wq (evEs C es ev S) fun l S1 => wqO (biD S1 b l) fun z => P z S1 := by simp only [evE, wq_bind, wq_of]
theorem q_isI {a : E} {cs : List Ty} : wq (evE C (.isI a cs) ev S) P = wq (evE C a ev S) fun x S1 => okI S1 x = true ∧ P (.bl (cs.any (isD S1 x))) S1 := by simp only [evE, wq_bind, wq_iteB, wq_ok]
theorem q_call {f : Nat} {es : List E} : wq (evE C (.call f es [] []) ev S) P = wq (evEs C es ev S) fun l S1 => wq (C.fn f l [] [] S1) P := by simp only [evE, evEs, wq_bind, wq_ok]
theorem q_mk {c ini : Nat} {es : List E} : wq (evE C (.mk c ini es) ev S) P = wq (evEs C es ev S) fun l S1 => wq (makeD C c ini l S1) P := by simp only [evE, wq_bind]
theorem q_mkK {c ini : Nat} {kn : List Str} {ks : List E} {perm : List Nat} : wq (evE C (.mkK c ini kn ks perm) ev S) P = wq (evEs C ks ev S) fun l S1 => wqO (permL l perm) fun l' => wq (makeD C c ini l' S1) P := by
  simp only [evE, wq_bind]
  congr 1
  funext l S1
  cases permL l perm <;> rfl
theorem q_callK {f : Nat} {kn : List Str} {ks : List E} {perm : List Nat} : wq (evE C (.callK f kn ks perm) ev S) P = wq (evEs C ks ev S) fun l S1 => wqO (permL l perm) fun l' => wq (C.fn f l' [] [] S1) P := by
  simp only [evE, wq_bind]
  congr 1
  funext l S1
  cases permL l perm <;> rfl
theorem q_mth {c f : Nat} {m : Str} {a : E} {es : List E} : wq (evE C (.mth c f m a es) ev S) P = wq (evE C a ev S) fun x S1 => mthB S1 c m x = true ∧ wq (evEs C es ev S1) fun l S2 => wq (C.fn f (x :: l) [] [] S2) P := by simp only [evE, wq_bind, wq_iteB]
theorem q_eqO {c f : Nat} {neg : Bool} {a b : E} : wq (evE C (.eqO c f neg a b) ev S) P = wq (evE C a ev S) fun x S1 => wq (evE C b ev S1) fun y S2 => (isInsB S2 c x && othB S2 c y) = true ∧ wq (C.fn f [x, y] [] [] S2) fun r S3 => wqO (blD neg r) fun z => P z S3 := by simp only [evE, wq_bind, wq_iteB, wq_of]
theorem q_lenO {c f : Nat} {a : E} : wq (evE C (.lenO c f a) ev S) P = wq (evE C a ev S) fun x S1 => isInsB S1 c x = true ∧ wq (C.fn f [x] [] [] S1) fun r S2 => wqO (lenD r) fun z => P z S2 := by simp only [evE, wq_bind, wq_iteB, wq_of]
theorem q_idxO {c f : Nat} {a i : E} : wq (evE C (.idxO c f a i) ev S) P = wq (evE C a ev S) fun x S1 => wq (evE C i ev S1) fun y S2 => isInsB S2 c x = true ∧ wq (C.fn f [x, y] [] [] S2) P := by simp only [evE, wq_bind, wq_iteB]
theorem q_Es0 {Q : List D → Store → Prop} : wq (evEs C [] ev S) Q = Q [] S := by simp only [evEs, wq_ok]
theorem q_Es1 {e : E} {es : List E} {Q : List D → Store → Prop} : wq (evEs C (e :: es) ev S) Q = wq (evE C e ev S) fun x S1 => wq (evEs C es ev S1) fun l S2 => Q (x :: l) S2 := by simp only [evEs, wq_bind, wq_ok]
/-- one turn of a comprehension -/
def lcTurn (C : Cl) (el : E) (tg : Tg) (ifs : List E) (ev : Ev) (d : D) (S : Store) : Out (Option D) := match setT tg d ev with
  | some ev2 => ((evTests C ifs ev2 S).bind fun k S3 => if k then (evE C el ev2 S3).bind fun y S4 => .ok (some y) S4 else .ok none S3).calm
  | none => .bad
theorem q_lc {el : E} {tg : Tg} {it : I} {ifs : List E} {vs : List Nat} : wq (evE C (.lc el tg it ifs vs) ev S) P = wq (evI C it ev S) fun q S1 => wq (goLc q.2 (lcTurn C el tg ifs (wipeE ev vs)) q.1 S1) fun r S2 => lineB r.length = true ∧ P (.lst r) S2 := by
  simp only [evE, wq_bind, wq_iteB, wq_ok]
  rfl
theorem q_turn {el : E} {tg : Tg} {ifs : List E} {d : D} {Q : Option D → Store → Prop} : wq (lcTurn C el tg ifs ev d S) Q = wqO (setT tg d ev) fun ev2 => @wq _ XF (evTests C ifs ev2 S) fun k S3 => if k then @wq _ XF (evE C el ev2 S3) fun y S4 => Q (some y) S4 else Q none S3 := by
  unfold lcTurn
  cases setT tg d ev with
  | none => rfl
  | some ev2 => simp only [wq_calm, wq_bind, wq_ite, wq_ok, wqO_some]
theorem q_tests0 {Q : Bool → Store → Prop} : wq (evTests C [] ev S) Q = Q true S := by simp only [evTests, wq_ok]
theorem q_tests1 {e : E} {es : List E} {Q : Bool → Store → Prop} : wq (evTests C (e :: es) ev S) Q = wq (evE C e ev S) fun x S1 => wqO (truD x) fun k => if k then wq (evTests C es ev S1) Q else Q false S1 := by simp only [evTests, wq_bind, wq_of, wq_ite, wq_ok]
theorem q_seq {e : E} {Q : List D × Gd → Store → Prop} : wq (evI C (.seq e) ev S) Q = wq (evE C e ev S) fun x S1 => wqO (seqD S1 x) fun q => Q q S1 := by simp only [evI, wq_bind, wq_of]
theorem q_rng {es : List E} {Q : List D × Gd → Store → Prop} : wq (evI C (.rng es) ev S) Q = wq (evEs C es ev S) fun l S1 => wqO (rngD l) fun q => Q (q, none) S1 := by simp only [evI, wq_bind, wq_of, wqO_map]
theorem q_enm {e : E} {Q : List D × Gd → Store → Prop} : wq (evI C (.enm e) ev S) Q = wq (evE C e ev S) fun x S1 => wqO (enmD S1 x) fun q => Q q S1 := by simp only [evI, wq_bind, wq_of]
theorem q_zip {a b : E} {Q : List D × Gd → Store → Prop} : wq (evI C (.zip a b) ev S) Q = wq (evE C a ev S) fun x S1 => wq (evE C b ev S1) fun y S2 => wqO (zipD x y) fun q => Q q S2 := by simp only [evI, wq_bind, wq_of]
end
/-! ### statements -/
section
variable {C : Cl} {g : Nat} {ev : Ev} {S : Store} {P : Fl → Store → Prop} {xp : XPost}
theorem q_asg {tg : Tg} {e : E} : wq (evT C g (.asg tg e) ev S) P = wq (evE C e ev S) fun x S1 => wqO (setT tg x ev) fun ev1 => P (.nx ev1) S1 := by
  simp only [evT, wq_bind]
  congr 1; funext x S1
  cases setT tg x ev <;> rfl
theorem q_asgF {i : Nat} {e : E} : wq (evT C g (.asgF i e) ev S) P = wq (evE C e ev S) fun x S1 => wqO (lstO x) fun l => i < ev.length ∧ P (.nx (ev.set i (.ow l))) S1 := by
  simp only [evT, wq_bind]
  congr 1; funext x S1
  cases x <;> simp [lstO]
def insO (S : Store) : D → Option (Nat × Nat × List Str × List D)
  | .cel n => match S[n]? with
    | some (.ins c ns vs) => some (n, c, ns, vs)
    | _ => none
  | _ => none
theorem q_asgA {a e : E} {f : Str} : wq (evT C g (.asgA a f e) ev S) P = wq (evE C e ev S) fun x S1 => wq (evE C a ev S1) fun o S2 => wqO (insO S2 o) fun q => q.2.2.1.length < 1000 ∧ P (.nx ev) (S2.set q.1 (.ins q.2.1 (setF f x q.2.2.1 q.2.2.2).1 (setF f x q.2.2.1 q.2.2.2).2)) := by
  simp only [evT, wq_bind]
  congr 1; funext x S1; congr 1; funext o S2
  cases o <;> simp only [insO, wq_bad, wqO_none]
  rename_i n
  cases S2[n]? with
  | none => simp
  | some c => cases c <;> simp
def lsO (S : Store) : D → D → Option (Nat × List D × Nat)
  | .cel n, .int k => match S[n]? with
    | some (.lst l) => (ixN l.length k).map fun j => (n, l, j)
    | _ => none
  | _, _ => none
theorem q_asgI {a i e : E} : wq (evT C g (.asgI a i e) ev S) P = wq (evE C e ev S) fun x S1 => wq (evE C a ev S1) fun o S2 => wq (evE C i ev S2) fun k S3 => wqO (lsO S3 o k) fun q => P (.nx ev) (S3.set q.1 (.lst (q.2.1.set q.2.2 x))) := by
  simp only [evT, wq_bind]
  congr 1; funext x S1; congr 1; funext o S2; congr 1; funext k S3
  cases o <;> first | (cases k <;> simp only [lsO, wq_bad, wqO_none]; done) | skip
  rename_i n
  cases k <;> simp only [lsO, wq_bad, wqO_none]
  rename_i k
  cases S3[n]? with
  | none => simp
  | some c =>
    cases c <;> simp
    rename_i l
    cases ixN l.length k <;> simp
theorem q_aug {i : Nat} {o : Operator} {e : E} : wq (evT C g (.aug i o e) ev S) P = wqO (getS ev i) fun x => wq (evE C e ev S) fun y S1 => wqO (augD o x y) fun z => i < ev.length ∧ P (.nx (ev.set i (.va z))) S1 := by
  simp only [evT]
  cases getS ev i <;> simp
theorem q_ex {e : E} : wq (evT C g (.ex e) ev S) P = wq (evE C e ev S) fun _ S1 => P (.nx ev) S1 := by simp only [evT, wq_bind, wq_ok]
theorem q_app_ow {i : Nat} {e : E} {l : List D} (h : ev[i]? = some (.ow l)) : wq (evT C g (.app i e) ev S) P = wq (evE C e ev S) fun x S1 => l.length < 16777216 ∧ P (.nx (ev.set i (.ow (l ++ [x])))) S1 := by
  simp only [evT, h, wq_bind, wq_iteB, wq_ok]
theorem q_app_cel {i n : Nat} {e : E} {l : List D} (h : ev[i]? = some (.va (.cel n))) (hn : S[n]? = some (.lst l)) : wq (evT C g (.app i e) ev S) P = wq (evE C e ev S) fun x S1 => wqO ((S1[n]?).bind fun c => match c with | .lst l => some l | _ => none) fun l => l.length < 16777216 ∧ P (.nx ev) (S1.set n (.lst (l ++ [x]))) := by
  simp only [evT, h, hn, wq_bind]
  congr 1; funext x S1
  cases S1[n]? with
  | none => rfl
  | some c => cases c <;> simp
theorem q_clr_ow {i : Nat} {l : List D} (h : ev[i]? = some (.ow l)) : wq (evT C g (.clr i) ev S) P = P (.nx (ev.set i (.ow []))) S := by
  simp only [evT, h, wq_ok]
theorem q_clr_cel {i n : Nat} {l : List D} (h : ev[i]? = some (.va (.cel n))) (hn : S[n]? = some (.lst l)) : wq (evT C g (.clr i) ev S) P = P (.nx ev) (S.set n (.lst [])) := by
  simp only [evT, h, hn, wq_ok]
theorem q_ifs {c : E} {a b : List T} : wq (evT C g (.ifs c a b) ev S) P = wq (evE C c ev S) fun x S1 => wqO (truD x) fun k => if k then wq (evTs C g a ev S1) P else wq (evTs C g b ev S1) P := by simp only [evT, wq_bind, wq_of, wq_ite]
/-- one turn of a loop -/
def frTurn (C : Cl) (g : Nat) (tg : Tg) (b : List T) (d : D) (ev : Ev) (S : Store) : Out Fl := match setT tg d ev with
  | some ev2 => evTs C g b ev2 S
  | none => .bad
theorem q_fr {tg : Tg} {it : I} {b : List T} : wq (evT C g (.fr tg it b) ev S) P = wq (evI C it ev S) fun q S1 => wq (goFor q.2 (frTurn C g tg b) q.1 ev S1) P := by
  simp only [evT, wq_bind]; rfl
theorem q_frTurn {tg : Tg} {b : List T} {d : D} : wq (frTurn C g tg b d ev S) P = wqO (setT tg d ev) fun ev2 => wq (evTs C g b ev2 S) P := by
  unfold frTurn
  cases setT tg d ev <;> rfl
theorem q_ret {e : E} : wq (evT C g (.ret e) ev S) P = wq (evE C e ev S) fun x S1 => P (.rt x) S1 := by simp only [evT, wq_bind, wq_ok]
theorem q_retN : wq (evT C g .retN ev S) P = P (.rt .non) S := by simp only [evT, wq_ok]
theorem q_pass : wq (evT C g .pass ev S) P = P (.nx ev) S := by simp only [evT, wq_ok]
theorem q_brk : wq (evT C g .brk ev S) P = P (.bk ev) S := by simp only [evT, wq_ok]
theorem q_cont : wq (evT C g .cont ev S) P = P (.ct ev) S := by simp only [evT, wq_ok]
theorem q_nev : wq (evT C g .nev ev S) P = False := by simp only [evT, wq_bad]
theorem q_raise {c : Nat} {ns : List Str} {es : List E} : wq (evT C g (.raise c ns es) ev S) P = wq (evEs C es ev S) fun l S1 => (ns.length == l.length) = true ∧ xp.x ⟨c, ns.reverse, l.reverse⟩ S1 := by simp only [evT, wq_bind, wq_iteB, wq_exc]
def celO : D → Option Nat
  | .cel n => some n
  | _ => none
def lstC : Option Cell → Option (List D)
  | some (.lst l) => some l
  | _ => none
theorem q_appE {a e : E} : wq (evT C g (.appE a e) ev S) P = wq (evE C a ev S) fun o S1 => wqO (celO o) fun n => wqO (lstC S1[n]?) fun _ => wq (evE C e ev S1) fun x S2 => wqO (lstC S2[n]?) fun l => l.length < 16777216 ∧ P (.nx ev) (S2.set n (.lst (l ++ [x]))) := by
  simp only [evT, wq_bind]
  congr 1; funext o S1
  cases o <;> simp only [celO, wq_bad, wqO_none]
  rename_i n
  simp only [wqO_some]
  cases S1[n]? with
  | none => simp only [lstC, wq_bad, wqO_none]
  | some c =>
    cases c <;> simp only [lstC, wq_bad, wqO_none, wqO_some, wq_bind]
    congr 1; funext x S2
    cases S2[n]? with
    | none => simp only [lstC, wq_bad, wqO_none]
    | some c => cases c <;> simp only [lstC, wq_bad, wqO_none, wqO_some, wq_iteB, wq_ok]
def suK (x : Exn) (ev : Ev) (S : Store) (P : Fl → Store → Prop) : SU → Prop
  | .asg i e => wqO (evSE x e) fun d => i < ev.length ∧ P (.nx (ev.set i (.va d))) S
  | .ret e => wqO (evSE x e) fun d => P (.rt d) S
  | .pass => P (.nx ev) S
theorem q_su {x : Exn} {su : SU} : wq (evSU x ev S su) P = suK x ev S P su := by
  cases su with
  | asg i e => simp only [evSU, suK]; cases evSE x e <;> simp
  | ret e => simp only [evSU, suK]; cases evSE x e <;> simp
  | pass => simp only [evSU, suK, wq_ok]
def trX (ev : Ev) (P : Fl → Store → Prop) (xp : XPost) : List Hd → Exn → Store → Prop
  | [], x, S => xp.x x S
  | h :: r, x, S => if catB x h then suK x (asE ev h.as) S P h.su else trX ev P xp r x S
theorem q_hdl {x : Exn} : ∀ {hs : List Hd}, wq (hdl hs x ev S) P = trX ev P xp hs x S
  | [] => rfl
  | h :: r => by simp only [hdl, trX, wq_ite, q_su, q_hdl (hs := r)]
def trP (k : Bk) (ev : Ev) (P : Fl → Store → Prop) (x : D) (S : Store) : Prop := match k with
  | .ex => P (.nx ev) S
  | .asg tg => wqO (setT tg x ev) fun ev1 => P (.nx ev1) S
  | .ret => P (.rt x) S
theorem q_trK {k : Bk} {x : D} : wq (trK k x ev S) P = trP k ev P x S := by
  cases k with
  | ex => rfl
  | asg tg => simp only [trK, trP]; cases setT tg x ev <;> rfl
  | ret => rfl
theorem q_tr {k : Bk} {e : E} {hs : List Hd} : wq (evT C g (.tr k e hs) ev S) P = @wq _ ⟨trX ev P xp hs⟩ (evE C e ev S) (trP k ev P) := by
  simp only [evT]
  cases evE C e ev S with
  | ok x S1 => simp only [Out.tr, q_trK, wq_ok]
  | exc x S1 => simp only [Out.tr, q_hdl, wq_exc]
  | bad => rfl
def extK (C : Cl) [xp : XPost] (i : Nat) (e : E) (ev : Ev) (S : Store) (P : Fl → Store → Prop) : Option Sl → Prop
  | some (.ow l) => wq (evE C e ev S) fun x S1 => wqO (lstO x) fun m => lineB (l.length + m.length) = true ∧ P (.nx (ev.set i (.ow (l ++ m)))) S1
  | some (.va (.cel n)) => wqO (lstC S[n]?) fun _ => wq (evE C e ev S) fun x S1 => wqO (lstO x) fun m => wqO (lstC S1[n]?) fun l => lineB (l.length + m.length) = true ∧ P (.nx ev) (S1.set n (.lst (l ++ m)))
  | _ => False
theorem q_ext {i : Nat} {e : E} : wq (evT C g (.ext i e) ev S) P = extK C i e ev S P ev[i]? := by
  simp only [evT]
  cases ev[i]? with
  | none => rfl
  | some s =>
    cases s with
    | no => rfl
    | th => rfl
    | ow l =>
      simp only [extK, wq_bind]
      congr 1; funext x S1
      cases x <;> simp [lstO]
    | va d =>
      cases d <;> try rfl
      rename_i n
      simp only [extK]
      cases S[n]? with
      | none => simp only [lstC, wq_bad, wqO_none]
      | some c =>
        cases c <;> simp only [lstC, wq_bad, wqO_none, wqO_some, wq_bind]
        congr 1; funext x S1
        cases x <;> simp only [lstO, wq_bad, wqO_none, wqO_some]
        cases S1[n]? with
        | none => simp only [lstC, wq_bad, wqO_none]
        | some c => cases c <;> simp only [lstC, wq_bad, wqO_none, wqO_some, wq_iteB, wq_ok]
def celL (S : Store) : D → Option (List D)
  | .cel m => lstC S[m]?
  | _ => none
def extCK (C : Cl) [xp : XPost] (i : Nat) (e : E) (ev : Ev) (S : Store) (P : Fl → Store → Prop) : Option Sl → Prop
  | some (.ow l) => wq (evE C e ev S) fun x S1 => wqO (celL S1 x) fun m => lineB (l.length + m.length) = true ∧ P (.nx (ev.set i (.ow (l ++ m)))) S1
  | some (.va (.cel n)) => wqO (lstC S[n]?) fun _ => wq (evE C e ev S) fun x S1 => wqO (celL S1 x) fun m => wqO (lstC S1[n]?) fun l => lineB (l.length + m.length) = true ∧ P (.nx ev) (S1.set n (.lst (l ++ m)))
  | _ => False
theorem q_extC {i : Nat} {e : E} : wq (evT C g (.extC i e) ev S) P = extCK C i e ev S P ev[i]? := by
  simp only [evT]
  cases ev[i]? with
  | none => rfl
  | some s =>
    cases s with
    | no => rfl
    | th => rfl
    | ow l =>
      simp only [extCK, wq_bind]
      congr 1; funext x S1
      cases x <;> simp only [celL, wq_bad, wqO_none, wqO_some]
      rename_i m
      cases S1[m]? with
      | none => simp only [lstC, wq_bad, wqO_none]
      | some c => cases c <;> simp only [lstC, wq_bad, wqO_none, wqO_some, wq_iteB, wq_ok]
    | va d =>
      cases d <;> try rfl
      rename_i n
      simp only [extCK]
      cases S[n]? with
      | none => simp only [lstC, wq_bad, wqO_none]
      | some c =>
        cases c <;> simp only [lstC, wq_bad, wqO_none, wqO_some, wq_bind]
        congr 1; funext x S1
        cases x <;> simp only [celL, wq_bad, wqO_none, wqO_some]
        rename_i m
        cases h1 : S1[n]? with
        | none =>
          cases h2 : S1[m]? with
          | none => simp only [lstC, wq_bad, wqO_none]
          | some c => cases c <;> simp only [lstC, wq_bad, wqO_none, wqO_some]
        | some c =>
          cases h2 : S1[m]? with
          | none => cases c <;> simp only [lstC, wq_bad, wqO_none, wqO_some]
          | some c2 => cases c <;> cases c2 <;> simp only [lstC, wq_bad, wqO_none, wqO_some, wq_iteB, wq_ok]
def owO : Option Sl → Option (List D)
  | some (.ow l) => some l
  | _ => none
def intX : D → Option Int
  | .int i => some i
  | _ => none
theorem q_asgO {i : Nat} {k e : E} : wq (evT C g (.asgO i k e) ev S) P = wq (evE C e ev S) fun x S1 => wqO (owO ev[i]?) fun l => wq (evE C k ev S1) fun k S2 => wqO (intX k) fun k => wqO (ixN l.length k) fun j => P (.nx (ev.set i (.ow (l.set j x)))) S2 := by
  simp only [evT, wq_bind]
  congr 1; funext x S1
  cases ev[i]? with
  | none => simp only [owO, wq_bad, wqO_none]
  | some s =>
    cases s <;> simp only [owO, wq_bad, wqO_none, wqO_some, wq_bind]
    congr 1; funext k S2
    cases k <;> simp only [intX, wq_bad, wqO_none, wqO_some]
    rename_i l k
    cases ixN l.length k <;> simp
/-- one turn of a while -/
def whTurn (C : Cl) (g : Nat) (b : List T) (ev : Ev) (S : Store) : Out Fl := evTs C g b ev S
def whTest (C : Cl) (c : E) (ev : Ev) (S : Store) : Out Bool := (evE C c ev S).bind fun x S2 => .of (truD x) S2
theorem q_wh {c : E} {b : List T} : wq (evT C g (.wh c b) ev S) P = wq (goWh (whTest C c) (whTurn C g b) g ev S) P := by simp only [evT]; rfl
theorem q_whTest {c : E} {Q : Bool → Store → Prop} : wq (whTest C c ev S) Q = wq (evE C c ev S) fun x S1 => wqO (truD x) fun k => Q k S1 := by simp only [whTest, wq_bind, wq_of]
theorem q_whTurn {b : List T} : wq (whTurn C g b ev S) P = wq (evTs C g b ev S) P := rfl
theorem q_frz {is : List Nat} {t : T} : wq (evT C g (.frz is t) ev S) P = wq (evT C g t (frzE ev is) S) P := by simp only [evT]
theorem q_par {is : List Nat} {es : List E} : wq (evT C g (.par is es) ev S) P = wq (evEs C es ev S) fun l S1 => lineB l.length = true ∧ wqO (setTs (is.map Tg.nm) l ev) fun ev1 => P (.nx ev1) S1 := by
  simp only [evT, wq_bind, wq_iteB]
  congr 1; funext l S1
  cases setTs (is.map Tg.nm) l ev <;> simp
theorem q_Ts0 : wq (evTs C g [] ev S) P = P (.nx ev) S := by simp only [evTs, wq_ok]
def thq [xp : XPost] (C : Cl) (g : Nat) (ts : List T) (P : Fl → Store → Prop) : Fl → Store → Prop
  | .nx ev1, S1 => wq (evTs C g ts ev1 S1) P
  | l, S1 => P l S1
theorem thq_nx {ts : List T} : thq C g ts P (.nx ev) S = wq (evTs C g ts ev S) P := rfl
theorem thq_rt {ts : List T} {d : D} : thq C g ts P (.rt d) S = P (.rt d) S := rfl
theorem thq_bk {ts : List T} : thq C g ts P (.bk ev) S = P (.bk ev) S := rfl
theorem thq_ct {ts : List T} : thq C g ts P (.ct ev) S = P (.ct ev) S := rfl
theorem q_Ts1 {t : T} {ts : List T} : wq (evTs C g (t :: ts) ev S) P = wq (evT C g t ev S) (thq C g ts P) := by
  simp only [evTs, wq_bind]
  congr 1; funext l S1
  cases l <;> rfl
def fiq (P : D → Store → Prop) : Fl → Store → Prop
  | .nx _, S => P .non S
  | .rt x, S => P x S
  | _, _ => False
theorem fiq_nx {P : D → Store → Prop} : fiq P (.nx ev) S = P .non S := rfl
theorem fiq_rt {P : D → Store → Prop} {x : D} : fiq P (.rt x) S = P x S := rfl
theorem fiq_bk {P : D → Store → Prop} : fiq P (.bk ev) S = False := rfl
theorem fiq_ct {P : D → Store → Prop} : fiq P (.ct ev) S = False := rfl
/-- a call -/
theorem q_callT {f : Nat} {b : E} {P : D → Store → Prop} : wq (evE C (.callT f b) ev S) P = wq (C.fnT f (fun S1 => evE C b (capE ev) S1) S) P := by simp only [evE]
theorem q_thk {i : Nat} {P : D → Store → Prop} (h : ev[i]? = some Sl.th) : wq (evE C (.thk i) ev S) P = wq (C.th S) P := by simp only [evE, h]
theorem q_fnT {F : Nat → Option Fd} {n f : Nat} {d : Fd} {th : Store → Out D} {P : D → Store → Prop} (h : F f = some d) : wq ((sem F g (n + 1)).fnT f th S) P = wq (evTs { sem F g n with th := th } g d.body (Sl.th :: List.replicate (d.N.length - 1) Sl.no) S) (fiq P) := by
  simp only [sem, h]
  simp only [runT, wq_bind]
  congr 1; funext x S1
  cases x <;> rfl
theorem q_fn {F : Nat → Option Fd} {n f : Nat} {d : Fd} {l : List D} {P : D → Store → Prop} (h : F f = some d) (hl : l.length = d.ps.length) : wq ((sem F g (n + 1)).fn f l [] [] S) P = wq (evTs (sem F g n) g d.body (l.map Sl.va ++ List.replicate (d.N.length - l.length) Sl.no) S) (fiq P) := by
  simp only [sem, h, hl]
  simp only [List.isEmpty_nil, Bool.true_and, Bool.and_true, decide_true, if_true, runF, wq_bind, hl]
  congr 1; funext x S1
  cases x <;> rfl
end
end Mp

set_option Elab.async false
set_option linter.all false
set_option maxRecDepth 100000
set_option autoImplicit false
set_option maxHeartbeats 4000000
/-! Reckoning with what the language computes: wp. -/
namespace Mp
open PySem L2
/-- what is to hold behind: hidden from simp (an instance), so that it does not look into it -/
class Kn (α : Type) where
  k : α → Store → Prop
class KnO (α : Type) where
  k : α → Prop
class Pr where
  p : Prop
@[irreducible] def wpI {α : Type} [xp : XPost] (o : Out α) [P : Kn α] : Prop := wq o P.k
theorem wpI_eq {α : Type} {xp : XPost} {o : Out α} {P : Kn α} : @wpI α xp o P = wq o P.k := by unfold wpI; rfl
abbrev wp {α : Type} [xp : XPost] (o : Out α) (P : α → Store → Prop) : Prop := @wpI α xp o ⟨P⟩
@[irreducible] def wpOI {α : Type} (o : Option α) [P : KnO α] : Prop := wqO o P.k
theorem wpOI_eq {α : Type} {o : Option α} {P : KnO α} : @wpOI α o P = wqO o P.k := by unfold wpOI; rfl
abbrev wpO {α : Type} (o : Option α) (P : α → Prop) : Prop := @wpOI α o ⟨P⟩
@[irreducible] def brI (b : Bool) [A : Pr] [B : Pr] : Prop := if b then A.p else B.p
theorem brI_eq {b : Bool} {A B : Pr} : @brI b A B = (if b then A.p else B.p) := by unfold brI; rfl
/-- two ways -/
abbrev br (b : Bool) (A B : Prop) : Prop := @brI b ⟨A⟩ ⟨B⟩
@[irreducible] def asI (c : Prop) [A : Pr] : Prop := c ∧ A.p
theorem asI_eq {c : Prop} {A : Pr} : @asI c A = (c ∧ A.p) := by unfold asI; rfl
/-- what must hold, and what is to hold behind -/
abbrev asr (c A : Prop) : Prop := @asI c ⟨A⟩
@[simp] theorem br_true {A B : Prop} : (@brI true ⟨A⟩ ⟨B⟩) = A := by simp [brI_eq]
@[simp] theorem br_false {A B : Prop} : (@brI false ⟨A⟩ ⟨B⟩) = B := by simp [brI_eq]
theorem br_ite {b : Bool} {A B : Prop} : (@brI b ⟨A⟩ ⟨B⟩) = (if b then A else B) := brI_eq
@[simp] theorem asr_true {A : Prop} : (@asI True ⟨A⟩) = A := by simp [asI_eq]
theorem asr_and {c A : Prop} : (@asI c ⟨A⟩) = (c ∧ A) := asI_eq
theorem asr_i {c A : Prop} (h : c) (k : A) : (@asI c ⟨A⟩) := by rw [asr_and]; exact ⟨h, k⟩
theorem br_i {b : Bool} {A B : Prop} (h1 : b = true → A) (h2 : b = false → B) : (@brI b ⟨A⟩ ⟨B⟩) := by
  cases b with
  | true => rw [br_true]; exact h1 rfl
  | false => rw [br_false]; exact h2 rfl
section
variable {α β : Type} {xp : XPost}
@[simp] theorem wp_ok {a : α} {S : Store} {P : α → Store → Prop} : (@wpI _ xp (.ok a S) ⟨P⟩) = P a S := by simp only [wpI_eq, wpOI_eq, brI_eq, asI_eq]; rfl
@[simp] theorem wp_bad {P : α → Store → Prop} : (@wpI _ xp (.bad : Out α) ⟨P⟩) = False := by simp only [wpI_eq, wpOI_eq, brI_eq, asI_eq]; rfl
@[simp] theorem wp_bind {o : Out α} {f : α → Store → Out β} {P : β → Store → Prop} : (@wpI _ xp (o.bind f) ⟨P⟩) = (@wpI _ xp o ⟨fun a S => (@wpI _ xp (f a S) ⟨P⟩)⟩) := by simp only [wpI_eq, wpOI_eq, brI_eq, asI_eq]; exact wq_bind
@[simp] theorem wp_of {o : Option α} {S : Store} {P : α → Store → Prop} : (@wpI _ xp (.of o S) ⟨P⟩) = (@wpOI _ o ⟨fun a => P a S⟩) := by simp only [wpI_eq, wpOI_eq, brI_eq, asI_eq]; exact wq_of
@[simp] theorem wp_exc {e : Exn} {S : Store} {P : α → Store → Prop} : (@wpI _ xp (.exc e S : Out α) ⟨P⟩) = xp.x e S := by simp only [wpI_eq, wpOI_eq, brI_eq, asI_eq]; rfl
@[simp] theorem wp_calm {o : Out α} {P : α → Store → Prop} : (@wpI _ xp o.calm ⟨P⟩) = @wpI _ XF o ⟨P⟩ := by simp only [wpI_eq, wpOI_eq, brI_eq, asI_eq]; exact wq_calm
@[simp] theorem wpO_some {a : α} {P : α → Prop} : (@wpOI _ (some a) ⟨P⟩) = P a := by simp only [wpI_eq, wpOI_eq, brI_eq, asI_eq]; rfl
@[simp] theorem wpO_none {P : α → Prop} : (@wpOI _ (none : Option α) ⟨P⟩) = False := by simp only [wpI_eq, wpOI_eq, brI_eq, asI_eq]; rfl
@[simp] theorem wpO_map {o : Option α} {f : α → β} {P : β → Prop} : (@wpOI _ (o.map f) ⟨P⟩) = (@wpOI _ o ⟨fun a => P (f a)⟩) := by simp only [wpI_eq, wpOI_eq, brI_eq, asI_eq]; exact wqO_map
@[simp] theorem wpO_ite {c : Prop} [Decidable c] {a : α} {P : α → Prop} : (@wpOI _ (if c then some a else none) ⟨P⟩) = (@asI c ⟨(P a)⟩) := by simp only [wpI_eq, wpOI_eq, brI_eq, asI_eq]; exact wqO_ite
@[simp] theorem wp_iteB {c : Prop} [Decidable c] {o : Out α} {P : α → Store → Prop} : (@wpI _ xp (if c then o else .bad) ⟨P⟩) = (@asI c ⟨((@wpI _ xp o ⟨P⟩))⟩) := by simp only [wpI_eq, wpOI_eq, brI_eq, asI_eq]; exact wq_iteB
theorem wp.ok {o : Out α} {P : α → Store → Prop} (h : @wpI _ XF o ⟨P⟩) : ∃ a S, o = .ok a S ∧ P a S := wq.ok ((wpI_eq (P := ⟨P⟩)).mp h)
theorem wp.of_eq {o : Out α} {a : α} {S : Store} {P : α → Store → Prop} (e : o = .ok a S) (h : P a S) : wp o P := by subst e; exact (wpI_eq (P := ⟨P⟩)).mpr h
theorem wp.imp {o : Out α} {P Q : α → Store → Prop} (h : wp o P) (k : ∀ a S, P a S → Q a S) : wp o Q := by
  exact (wpI_eq (P := ⟨Q⟩)).mpr (wq.imp ((wpI_eq (P := ⟨P⟩)).mp h) k)
theorem wp.impx {xp' : XPost} {o : Out α} {P Q : α → Store → Prop} (h : @wpI _ xp o ⟨P⟩) (k : ∀ a S, P a S → Q a S) (kx : ∀ e S, xp.x e S → xp'.x e S) : @wpI _ xp' o ⟨Q⟩ :=
  (wpI_eq (P := ⟨Q⟩)).mpr (wq.impx ((wpI_eq (P := ⟨P⟩)).mp h) k kx)
end
section
variable {C : Cl} {ev : Ev} {S : Store} {P : D → Store → Prop} {xp : XPost}
@[simp] theorem w_var {i : Nat} : (@wpI _ xp (evE C (.var i) ev S) ⟨P⟩) = (@wpOI _ (getS ev i) ⟨fun d => P d S⟩) := by simp only [wpI_eq, wpOI_eq, brI_eq, asI_eq]; exact q_var
@[simp] theorem w_pk {i : Nat} : (@wpI _ xp (evE C (.pk i) ev S) ⟨P⟩) = (@wpOI _ (peekS ev i) ⟨fun d => P d S⟩) := by simp only [wpI_eq, wpOI_eq, brI_eq, asI_eq]; exact q_pk
@[simp] theorem w_con {c : Const} : (@wpI _ xp (evE C (.con c) ev S) ⟨P⟩) = (@wpOI _ (conD c) ⟨fun d => P d S⟩) := by simp only [wpI_eq, wpOI_eq, brI_eq, asI_eq]; exact q_con
@[simp] theorem w_glo {x : Str} {d : D} : (@wpI _ xp (evE C (.glo x d) ev S) ⟨P⟩) = P d S := by simp only [evE, wp_ok]
@[simp] theorem w_bin {o : Operator} {a b : E} : (@wpI _ xp (evE C (.bin o a b) ev S) ⟨P⟩) = (@wpI _ xp (evE C a ev S) ⟨fun x S1 => (@wpI _ xp (evE C b ev S1) ⟨fun y S2 => (@wpOI _ (binD o x y) ⟨fun z => P z S2⟩)⟩)⟩) := by simp only [wpI_eq, wpOI_eq, brI_eq, asI_eq]; exact q_bin
@[simp] theorem w_neg {a : E} : (@wpI _ xp (evE C (.neg a) ev S) ⟨P⟩) = (@wpI _ xp (evE C a ev S) ⟨fun x S1 => (@wpOI _ (negD x) ⟨fun z => P z S1⟩)⟩) := by simp only [wpI_eq, wpOI_eq, brI_eq, asI_eq]; exact q_neg
@[simp] theorem w_nt {a : E} : (@wpI _ xp (evE C (.nt a) ev S) ⟨P⟩) = (@wpI _ xp (evE C a ev S) ⟨fun x S1 => (@wpOI _ (truD x) ⟨fun b => P (.bl (!b)) S1⟩)⟩) := by simp only [wpI_eq, wpOI_eq, brI_eq, asI_eq]; exact q_nt
@[simp] theorem w_cmp {o : CmpOp} {a b : E} : (@wpI _ xp (evE C (.cmp o a b) ev S) ⟨P⟩) = (@wpI _ xp (evE C a ev S) ⟨fun x S1 => (@wpI _ xp (evE C b ev S1) ⟨fun y S2 => (@wpOI _ (cmpD o x y) ⟨fun k => P (.bl k) S2⟩)⟩)⟩) := by simp only [wpI_eq, wpOI_eq, brI_eq, asI_eq]; exact q_cmp
@[simp] theorem w_cmp2 {o o' : CmpOp} {a b c : E} : (@wpI _ xp (evE C (.cmp2 o o' a b c) ev S) ⟨P⟩) = (@wpI _ xp (evE C a ev S) ⟨fun x S1 => (@wpI _ xp (evE C b ev S1) ⟨fun y S2 => (@wpOI _ (cmpD o x y) ⟨fun k => (@brI k ⟨((@wpI _ xp (evE C c ev S2) ⟨fun z S3 => (@wpOI _ (cmpD o' y z) ⟨fun k' => P (.bl k') S3⟩)⟩))⟩ ⟨(P (.bl false) S2)⟩)⟩)⟩)⟩) := by simp only [wpI_eq, wpOI_eq, brI_eq, asI_eq]; exact q_cmp2
@[simp] theorem w_isN {a : E} : (@wpI _ xp (evE C (.isN a) ev S) ⟨P⟩) = (@wpI _ xp (evE C a ev S) ⟨fun x S1 => P (.bl (isNonD x)) S1⟩) := by simp only [wpI_eq, wpOI_eq, brI_eq, asI_eq]; exact q_isN
@[simp] theorem w_isNN {a : E} : (@wpI _ xp (evE C (.isNN a) ev S) ⟨P⟩) = (@wpI _ xp (evE C a ev S) ⟨fun x S1 => P (.bl (!isNonD x)) S1⟩) := by simp only [wpI_eq, wpOI_eq, brI_eq, asI_eq]; exact q_isNN
@[simp] theorem w_and {a : E} {es : List E} : (@wpI _ xp (evE C (.andE a es) ev S) ⟨P⟩) = (@wpI _ xp (evE C a ev S) ⟨fun x S1 => (@wpI _ xp (evAnd C x es ev S1) ⟨P⟩)⟩) := by simp only [wpI_eq, wpOI_eq, brI_eq, asI_eq]; exact q_and
@[simp] theorem w_or {a : E} {es : List E} : (@wpI _ xp (evE C (.orE a es) ev S) ⟨P⟩) = (@wpI _ xp (evE C a ev S) ⟨fun x S1 => (@wpI _ xp (evOr C x es ev S1) ⟨P⟩)⟩) := by simp only [wpI_eq, wpOI_eq, brI_eq, asI_eq]; exact q_or
@[simp] theorem w_and0 {x : D} : (@wpI _ xp (evAnd C x [] ev S) ⟨P⟩) = P x S := by simp only [wpI_eq, wpOI_eq, brI_eq, asI_eq]; exact q_and0
@[simp] theorem w_and1 {x : D} {e : E} {es : List E} : (@wpI _ xp (evAnd C x (e :: es) ev S) ⟨P⟩) = (@wpOI _ (truD x) ⟨fun k => (@brI k ⟨((@wpI _ xp (evE C e ev S) ⟨fun y S1 => (@wpI _ xp (evAnd C y es ev S1) ⟨P⟩)⟩))⟩ ⟨(P x S)⟩)⟩) := by simp only [wpI_eq, wpOI_eq, brI_eq, asI_eq]; exact q_and1
@[simp] theorem w_or0 {x : D} : (@wpI _ xp (evOr C x [] ev S) ⟨P⟩) = P x S := by simp only [wpI_eq, wpOI_eq, brI_eq, asI_eq]; exact q_or0
@[simp] theorem w_or1 {x : D} {e : E} {es : List E} : (@wpI _ xp (evOr C x (e :: es) ev S) ⟨P⟩) = (@wpOI _ (truD x) ⟨fun k => (@brI k ⟨(P x S)⟩ ⟨((@wpI _ xp (evE C e ev S) ⟨fun y S1 => (@wpI _ xp (evOr C y es ev S1) ⟨P⟩)⟩))⟩)⟩) := by simp only [wpI_eq, wpOI_eq, brI_eq, asI_eq]; exact q_or1
@[simp] theorem w_ife {c a b : E} : (@wpI _ xp (evE C (.ife c a b) ev S) ⟨P⟩) = (@wpI _ xp (evE C c ev S) ⟨fun x S1 => (@wpOI _ (truD x) ⟨fun k => (@brI k ⟨((@wpI _ xp (evE C a ev S1) ⟨P⟩))⟩ ⟨((@wpI _ xp (evE C b ev S1) ⟨P⟩))⟩)⟩)⟩) := by simp only [wpI_eq, wpOI_eq, brI_eq, asI_eq]; exact q_ife
@[simp] theorem w_tup {es : List E} : (@wpI _ xp (evE C (.tupE es) ev S) ⟨P⟩) = (@wpI _ xp (evEs C es ev S) ⟨fun l S1 => (@asI (lineB l.length = true) ⟨(P (.tup l) S1)⟩)⟩) := by simp only [wpI_eq, wpOI_eq, brI_eq, asI_eq]; exact q_tup
@[simp] theorem w_lst {es : List E} : (@wpI _ xp (evE C (.lstE es) ev S) ⟨P⟩) = (@wpI _ xp (evEs C es ev S) ⟨fun l S1 => (@asI (lineB l.length = true) ⟨(P (.lst l) S1)⟩)⟩) := by simp only [wpI_eq, wpOI_eq, brI_eq, asI_eq]; exact q_lst
@[simp] theorem w_cel {a : E} : (@wpI _ xp (evE C (.celE a) ev S) ⟨P⟩) = (@wpI _ xp (evE C a ev S) ⟨fun x S1 => (@wpOI _ (lstO x) ⟨fun l => P (.cel S1.length) (S1 ++ [.lst l])⟩)⟩) := by simp only [wpI_eq, wpOI_eq, brI_eq, asI_eq]; exact q_cel
@[simp] theorem w_idx {a i : E} : (@wpI _ xp (evE C (.idx a i) ev S) ⟨P⟩) = (@wpI _ xp (evE C a ev S) ⟨fun x S1 => (@wpI _ xp (evE C i ev S1) ⟨fun y S2 => (@wpOI _ (idxD S2 x y) ⟨fun z => P z S2⟩)⟩)⟩) := by simp only [wpI_eq, wpOI_eq, brI_eq, asI_eq]; exact q_idx
@[simp] theorem w_slc {a : E} {lo hi : Option E} : (@wpI _ xp (evE C (.slc a lo hi) ev S) ⟨P⟩) = (@wpI _ xp (evE C a ev S) ⟨fun x S1 => (@wpI _ xp (evO C lo ev S1) ⟨fun l S2 => (@wpI _ xp (evO C hi ev S2) ⟨fun u S3 => (@wpOI _ (slcD S3 x l u) ⟨fun z => P z S3⟩)⟩)⟩)⟩) := by simp only [wpI_eq, wpOI_eq, brI_eq, asI_eq]; exact q_slc
@[simp] theorem w_O0 {Q : Option Int → Store → Prop} : (@wpI _ xp (evO C none ev S) ⟨Q⟩) = Q none S := by simp only [evO, wp_ok]
@[simp] theorem w_O1 {e : E} {Q : Option Int → Store → Prop} : (@wpI _ xp (evO C (some e) ev S) ⟨Q⟩) = (@wpI _ xp (evE C e ev S) ⟨fun x S1 => (@wpOI _ (intO x) ⟨fun i => Q i S1⟩)⟩) := by simp only [wpI_eq, wpOI_eq, brI_eq, asI_eq]; exact q_O1
@[simp] theorem w_att {a : E} {f : Str} : (@wpI _ xp (evE C (.att a f) ev S) ⟨P⟩) = (@wpI _ xp (evE C a ev S) ⟨fun x S1 => (@wpOI _ (attD S1 f x) ⟨fun z => P z S1⟩)⟩) := by simp only [wpI_eq, wpOI_eq, brI_eq, asI_eq]; exact q_att
@[simp] theorem w_bcl {b : Bi} {es : List E} : (@wpI _ xp (evE C (.bcl b es) ev S) ⟨P⟩) = (@wpI _ xp (evEs C es ev S) ⟨fun l S1 => (@wpOI _ (biD S1 b l) ⟨fun z => P z S1⟩)⟩) := by simp only [wpI_eq, wpOI_eq, brI_eq, asI_eq]; exact q_bcl
@[simp] theorem w_isI {a : E} {cs : List Ty} : (@wpI _ xp (evE C (.isI a cs) ev S) ⟨P⟩) = (@wpI _ xp (evE C a ev S) ⟨fun x S1 => (@asI (okI S1 x = true) ⟨(P (.bl (cs.any (isD S1 x))) S1)⟩)⟩) := by simp only [wpI_eq, wpOI_eq, brI_eq, asI_eq]; exact q_isI
@[simp] theorem w_call {f : Nat} {es : List E} : (@wpI _ xp (evE C (.call f es [] []) ev S) ⟨P⟩) = (@wpI _ xp (evEs C es ev S) ⟨fun l S1 => (@wpI _ xp (C.fn f l [] [] S1) ⟨P⟩)⟩) := by simp only [wpI_eq, wpOI_eq, brI_eq, asI_eq]; exact q_call
@[simp] theorem w_mk {c ini : Nat} {es : List E} : (@wpI _ xp (evE C (.mk c ini es) ev S) ⟨P⟩) = (@wpI _ xp (evEs C es ev S) ⟨fun l S1 => (@wpI _ xp (makeD C c ini l S1) ⟨P⟩)⟩) := by simp only [wpI_eq, wpOI_eq, brI_eq, asI_eq]; exact q_mk
@[simp] theorem w_mkK {c ini : Nat} {kn : List Str} {ks : List E} {perm : List Nat} : (@wpI _ xp (evE C (.mkK c ini kn ks perm) ev S) ⟨P⟩) = (@wpI _ xp (evEs C ks ev S) ⟨fun l S1 => (@wpOI _ (permL l perm) ⟨fun l' => (@wpI _ xp (makeD C c ini l' S1) ⟨P⟩)⟩)⟩) := by simp only [wpI_eq, wpOI_eq, brI_eq, asI_eq]; exact q_mkK
@[simp] theorem w_callK {f : Nat} {kn : List Str} {ks : List E} {perm : List Nat} : (@wpI _ xp (evE C (.callK f kn ks perm) ev S) ⟨P⟩) = (@wpI _ xp (evEs C ks ev S) ⟨fun l S1 => (@wpOI _ (permL l perm) ⟨fun l' => (@wpI _ xp (C.fn f l' [] [] S1) ⟨P⟩)⟩)⟩) := by simp only [wpI_eq, wpOI_eq, brI_eq, asI_eq]; exact q_callK
@[simp] theorem w_mth {c f : Nat} {m : Str} {a : E} {es : List E} : (@wpI _ xp (evE C (.mth c f m a es) ev S) ⟨P⟩) = (@wpI _ xp (evE C a ev S) ⟨fun x S1 => (@asI (mthB S1 c m x = true) ⟨((@wpI _ xp (evEs C es ev S1) ⟨fun l S2 => (@wpI _ xp (C.fn f (x :: l) [] [] S2) ⟨P⟩)⟩))⟩)⟩) := by simp only [wpI_eq, wpOI_eq, brI_eq, asI_eq]; exact q_mth
@[simp] theorem w_eqO {c f : Nat} {neg : Bool} {a b : E} : (@wpI _ xp (evE C (.eqO c f neg a b) ev S) ⟨P⟩) = (@wpI _ xp (evE C a ev S) ⟨fun x S1 => (@wpI _ xp (evE C b ev S1) ⟨fun y S2 => (@asI ((isInsB S2 c x && othB S2 c y) = true) ⟨((@wpI _ xp (C.fn f [x, y] [] [] S2) ⟨fun r S3 => (@wpOI _ (blD neg r) ⟨fun z => P z S3⟩)⟩))⟩)⟩)⟩) := by simp only [wpI_eq, wpOI_eq, brI_eq, asI_eq]; exact q_eqO
@[simp] theorem w_lenO {c f : Nat} {a : E} : (@wpI _ xp (evE C (.lenO c f a) ev S) ⟨P⟩) = (@wpI _ xp (evE C a ev S) ⟨fun x S1 => (@asI (isInsB S1 c x = true) ⟨((@wpI _ xp (C.fn f [x] [] [] S1) ⟨fun r S2 => (@wpOI _ (lenD r) ⟨fun z => P z S2⟩)⟩))⟩)⟩) := by simp only [wpI_eq, wpOI_eq, brI_eq, asI_eq]; exact q_lenO
@[simp] theorem w_idxO {c f : Nat} {a i : E} : (@wpI _ xp (evE C (.idxO c f a i) ev S) ⟨P⟩) = (@wpI _ xp (evE C a ev S) ⟨fun x S1 => (@wpI _ xp (evE C i ev S1) ⟨fun y S2 => (@asI (isInsB S2 c x = true) ⟨((@wpI _ xp (C.fn f [x, y] [] [] S2) ⟨P⟩))⟩)⟩)⟩) := by simp only [wpI_eq, wpOI_eq, brI_eq, asI_eq]; exact q_idxO
@[simp] theorem w_wk {a : E} : (@wpI _ xp (evE C (.wk a) ev S) ⟨P⟩) = (@wpI _ xp (evE C a ev S) ⟨fun x S1 => P x.pl S1⟩) := by simp only [wpI_eq, wpOI_eq, evE, wq_bind, wq_ok]
@[simp] theorem w_tpF {a : E} : (@wpI _ xp (evE C (.tpF a) ev S) ⟨P⟩) = (@wpI _ xp (evE C a ev S) ⟨fun x S1 => (@wpOI _ (lstS S1 x) ⟨fun l => P (.tpf l) S1⟩)⟩) := by simp only [wpI_eq, wpOI_eq, evE, wq_bind, wq_of, wqO_map]
@[simp] theorem w_eqS {neg : Bool} {a b : E} : (@wpI _ xp (evE C (.eqS neg a b) ev S) ⟨P⟩) = (@wpI _ xp (evE C a ev S) ⟨fun x S1 => (@wpI _ xp (evE C b ev S1) ⟨fun y S2 => (@wpOI _ (eqDS S2 x y) ⟨fun k => P (.bl (k != neg)) S2⟩)⟩)⟩) := by simp only [wpI_eq, wpOI_eq, evE, wq_bind, wq_of, wqO_map]
@[simp] theorem w_eqI {neg : Bool} {a b : E} : (@wpI _ xp (evE C (.eqI neg a b) ev S) ⟨P⟩) = (@wpI _ xp (evE C a ev S) ⟨fun x S1 => (@wpI _ xp (evE C b ev S1) ⟨fun y S2 => (@wpOI _ (eqDI S2 x y) ⟨fun k => P (.bl (k != neg)) S2⟩)⟩)⟩) := by simp only [wpI_eq, wpOI_eq, evE, wq_bind, wq_of, wqO_map]
@[simp] theorem w_dcE {ks : List Str} {vs : List E} : (@wpI _ xp (evE C (.dcE ks vs) ev S) ⟨P⟩) = (@wpI _ xp (evEs C vs ev S) ⟨fun l S1 => P (.cel S1.length) (S1 ++ [.dct (dkM [] ((ks.zip l).map fun p => (Sum.inr p.1, p.2)))])⟩) := by simp only [wpI_eq, wpOI_eq, evE, wq_bind, wq_ok]
@[simp] theorem w_dget {a k : E} : (@wpI _ xp (evE C (.dget a k) ev S) ⟨P⟩) = (@wpI _ xp (evE C a ev S) ⟨fun x S1 => (@wpI _ xp (evE C k ev S1) ⟨fun y S2 => (@wpOI _ ((dctG S2 x y).bind id) ⟨fun z => P z S2⟩)⟩)⟩) := by simp only [wpI_eq, wpOI_eq, evE, wq_bind, wq_of]
@[simp] theorem w_dget2 {a k d : E} : (@wpI _ xp (evE C (.dget2 a k d) ev S) ⟨P⟩) = (@wpI _ xp (evE C a ev S) ⟨fun x S1 => (@asI ((dctS S1 x).isSome = true) ⟨((@wpI _ xp (evE C k ev S1) ⟨fun y S2 => (@wpI _ xp (evE C d ev S2) ⟨fun z S3 => (@wpOI _ (dctG S3 x y) ⟨fun o => P (o.getD z) S3⟩)⟩)⟩))⟩)⟩) := by simp only [wpI_eq, wpOI_eq, asI_eq, evE, wq_bind, wq_of, wq_iteB, wqO_map]
@[simp] theorem w_dIn {neg : Bool} {a k : E} : (@wpI _ xp (evE C (.dIn neg k a) ev S) ⟨P⟩) = (@wpI _ xp (evE C k ev S) ⟨fun y S1 => (@wpI _ xp (evE C a ev S1) ⟨fun x S2 => (@wpOI _ (dctG S2 x y) ⟨fun o => P (.bl (o.isSome != neg)) S2⟩)⟩)⟩) := by simp only [wpI_eq, wpOI_eq, evE, wq_bind, wq_of, wqO_map]
@[simp] theorem w_catS {a b : E} : (@wpI _ xp (evE C (.catS a b) ev S) ⟨P⟩) = (@wpI _ xp (evE C a ev S) ⟨fun x S1 => (@wpI _ xp (evE C b ev S1) ⟨fun y S2 => (@wpOI _ (catD S2 x y) ⟨fun z => P z S2⟩)⟩)⟩) := by simp only [wpI_eq, wpOI_eq, evE, wq_bind, wq_of]
@[simp] theorem w_ixo {tp : Bool} {a b : E} : (@wpI _ xp (evE C (.ixo tp a b) ev S) ⟨P⟩) = (@wpI _ xp (evE C a ev S) ⟨fun x S1 => (@asI (ixB tp x = true) ⟨((@wpI _ xp (evE C b ev S1) ⟨fun y S2 => (@wpOI _ (ixoD tp x y) ⟨fun z => P z S2⟩)⟩))⟩)⟩) := by simp only [wpI_eq, wpOI_eq, asI_eq, evE, wq_bind, wq_of, wq_iteB]
@[simp] theorem w_dgt {ks : List Str} {vs : List E} {a d : E} : (@wpI _ xp (evE C (.dgt ks vs a d) ev S) ⟨P⟩) = (@wpI _ xp (evEs C vs ev S) ⟨fun l S1 => (@wpI _ xp (evE C a ev S1) ⟨fun x S2 => (@wpI _ xp (evE C d ev S2) ⟨fun y S3 => (@wpOI _ (dgtD ks l x y) ⟨fun z => P z S3⟩)⟩)⟩)⟩) := by simp only [wpI_eq, wpOI_eq, evE, wq_bind, wq_of]
@[simp] theorem w_dicE {ks : List Str} {vs : List E} : (@wpI _ xp (evE C (.dicE ks vs) ev S) ⟨P⟩) = (@wpI _ xp (evEs C vs ev S) ⟨fun _ S1 => P .dic S1⟩) := by simp only [wpI_eq, evE, wq_bind, wq_ok]
@[simp] theorem w_Es0 {Q : List D → Store → Prop} : (@wpI _ xp (evEs C [] ev S) ⟨Q⟩) = Q [] S := by simp only [wpI_eq, wpOI_eq, brI_eq, asI_eq]; exact q_Es0
@[simp] theorem w_Es1 {e : E} {es : List E} {Q : List D → Store → Prop} : (@wpI _ xp (evEs C (e :: es) ev S) ⟨Q⟩) = (@wpI _ xp (evE C e ev S) ⟨fun x S1 => (@wpI _ xp (evEs C es ev S1) ⟨fun l S2 => Q (x :: l) S2⟩)⟩) := by simp only [wpI_eq, wpOI_eq, brI_eq, asI_eq]; exact q_Es1
@[simp] theorem w_lc {el : E} {tg : Tg} {it : I} {ifs : List E} {vs : List Nat} : (@wpI _ xp (evE C (.lc el tg it ifs vs) ev S) ⟨P⟩) = (@wpI _ xp (evI C it ev S) ⟨fun q S1 => (@wpI _ xp (goLc q.2 (lcTurn C el tg ifs (wipeE ev vs)) q.1 S1) ⟨fun r S2 => (@asI (lineB r.length = true) ⟨(P (.lst r) S2)⟩)⟩)⟩) := by simp only [wpI_eq, wpOI_eq, brI_eq, asI_eq]; exact q_lc
@[simp] theorem x_turn {el : E} {tg : Tg} {ifs : List E} {d : D} {Q : Option D → Store → Prop} : @wpI _ xp (lcTurn C el tg ifs ev d S) ⟨Q⟩ = @wpOI _ (setT tg d ev) ⟨fun ev2 => @wpI _ XF (evTests C ifs ev2 S) ⟨fun k S3 => @brI k ⟨@wpI _ XF (evE C el ev2 S3) ⟨fun y S4 => Q (some y) S4⟩⟩ ⟨Q none S3⟩⟩⟩ := by simp only [wpI_eq, wpOI_eq, brI_eq, asI_eq]; exact q_turn
@[simp] theorem w_tests0 {Q : Bool → Store → Prop} : (@wpI _ xp (evTests C [] ev S) ⟨Q⟩) = Q true S := by simp only [wpI_eq, wpOI_eq, brI_eq, asI_eq]; exact q_tests0
@[simp] theorem w_tests1 {e : E} {es : List E} {Q : Bool → Store → Prop} : (@wpI _ xp (evTests C (e :: es) ev S) ⟨Q⟩) = (@wpI _ xp (evE C e ev S) ⟨fun x S1 => (@wpOI _ (truD x) ⟨fun k => (@brI k ⟨((@wpI _ xp (evTests C es ev S1) ⟨Q⟩))⟩ ⟨(Q false S1)⟩)⟩)⟩) := by simp only [wpI_eq, wpOI_eq, brI_eq, asI_eq]; exact q_tests1
@[simp] theorem w_seq {e : E} {Q : List D × Gd → Store → Prop} : (@wpI _ xp (evI C (.seq e) ev S) ⟨Q⟩) = (@wpI _ xp (evE C e ev S) ⟨fun x S1 => (@wpOI _ (seqD S1 x) ⟨fun q => Q q S1⟩)⟩) := by simp only [wpI_eq, wpOI_eq, brI_eq, asI_eq]; exact q_seq
@[simp] theorem w_rng {es : List E} {Q : List D × Gd → Store → Prop} : (@wpI _ xp (evI C (.rng es) ev S) ⟨Q⟩) = (@wpI _ xp (evEs C es ev S) ⟨fun l S1 => (@wpOI _ (rngD l) ⟨fun q => Q (q, none) S1⟩)⟩) := by simp only [wpI_eq, wpOI_eq, brI_eq, asI_eq]; exact q_rng
@[simp] theorem w_enm {e : E} {Q : List D × Gd → Store → Prop} : (@wpI _ xp (evI C (.enm e) ev S) ⟨Q⟩) = (@wpI _ xp (evE C e ev S) ⟨fun x S1 => (@wpOI _ (enmD S1 x) ⟨fun q => Q q S1⟩)⟩) := by simp only [wpI_eq, wpOI_eq, brI_eq, asI_eq]; exact q_enm
@[simp] theorem w_zip {a b : E} {Q : List D × Gd → Store → Prop} : (@wpI _ xp (evI C (.zip a b) ev S) ⟨Q⟩) = (@wpI _ xp (evE C a ev S) ⟨fun x S1 => (@wpI _ xp (evE C b ev S1) ⟨fun y S2 => (@wpOI _ (zipD x y) ⟨fun q => Q q S2⟩)⟩)⟩) := by simp only [wpI_eq, wpOI_eq, brI_eq, asI_eq]; exact q_zip
end
section
variable {C : Cl} {g : Nat} {ev : Ev} {S : Store} {P : Fl → Store → Prop} {xp : XPost}
@[simp] theorem w_asg {tg : Tg} {e : E} : (@wpI _ xp (evT C g (.asg tg e) ev S) ⟨P⟩) = (@wpI _ xp (evE C e ev S) ⟨fun x S1 => (@wpOI _ (setT tg x ev) ⟨fun ev1 => P (.nx ev1) S1⟩)⟩) := by simp only [wpI_eq, wpOI_eq, brI_eq, asI_eq]; exact q_asg
@[simp] theorem w_asgF {i : Nat} {e : E} : (@wpI _ xp (evT C g (.asgF i e) ev S) ⟨P⟩) = (@wpI _ xp (evE C e ev S) ⟨fun x S1 => (@wpOI _ (lstO x) ⟨fun l => (@asI (i < ev.length) ⟨(P (.nx (ev.set i (.ow l))) S1)⟩)⟩)⟩) := by simp only [wpI_eq, wpOI_eq, brI_eq, asI_eq]; exact q_asgF
@[simp] theorem w_asgA {a e : E} {f : Str} : (@wpI _ xp (evT C g (.asgA a f e) ev S) ⟨P⟩) = (@wpI _ xp (evE C e ev S) ⟨fun x S1 => (@wpI _ xp (evE C a ev S1) ⟨fun o S2 => (@wpOI _ (insO S2 o) ⟨fun q => (@asI (q.2.2.1.length < 1000) ⟨(P (.nx ev) (S2.set q.1 (.ins q.2.1 (setF f x q.2.2.1 q.2.2.2).1 (setF f x q.2.2.1 q.2.2.2).2)))⟩)⟩)⟩)⟩) := by simp only [wpI_eq, wpOI_eq, brI_eq, asI_eq]; exact q_asgA
@[simp] theorem w_asgI {a i e : E} : (@wpI _ xp (evT C g (.asgI a i e) ev S) ⟨P⟩) = (@wpI _ xp (evE C e ev S) ⟨fun x S1 => (@wpI _ xp (evE C a ev S1) ⟨fun o S2 => (@wpI _ xp (evE C i ev S2) ⟨fun k S3 => (@wpOI _ (lsO S3 o k) ⟨fun q => P (.nx ev) (S3.set q.1 (.lst (q.2.1.set q.2.2 x)))⟩)⟩)⟩)⟩) := by simp only [wpI_eq, wpOI_eq, brI_eq, asI_eq]; exact q_asgI
@[simp] theorem w_aug {i : Nat} {o : Operator} {e : E} : (@wpI _ xp (evT C g (.aug i o e) ev S) ⟨P⟩) = (@wpOI _ (getS ev i) ⟨fun x => (@wpI _ xp (evE C e ev S) ⟨fun y S1 => (@wpOI _ (augD o x y) ⟨fun z => (@asI (i < ev.length) ⟨(P (.nx (ev.set i (.va z))) S1)⟩)⟩)⟩)⟩) := by simp only [wpI_eq, wpOI_eq, brI_eq, asI_eq]; exact q_aug
@[simp] theorem w_ex {e : E} : (@wpI _ xp (evT C g (.ex e) ev S) ⟨P⟩) = (@wpI _ xp (evE C e ev S) ⟨fun _ S1 => P (.nx ev) S1⟩) := by simp only [wpI_eq, wpOI_eq, brI_eq, asI_eq]; exact q_ex
theorem w_app_ow {i : Nat} {e : E} {l : List D} (h : ev[i]? = some (.ow l)) : (@wpI _ xp (evT C g (.app i e) ev S) ⟨P⟩) = (@wpI _ xp (evE C e ev S) ⟨fun x S1 => (@asI (l.length < 16777216) ⟨(P (.nx (ev.set i (.ow (l ++ [x])))) S1)⟩)⟩) := by simp only [wpI_eq, wpOI_eq, brI_eq, asI_eq]; exact q_app_ow h
theorem w_app_cel {i n : Nat} {e : E} {l : List D} (h : ev[i]? = some (.va (.cel n))) (hn : S[n]? = some (.lst l)) : (@wpI _ xp (evT C g (.app i e) ev S) ⟨P⟩) = (@wpI _ xp (evE C e ev S) ⟨fun x S1 => (@wpOI _ ((S1[n]?).bind fun c => match c with | .lst l => some l | _ => none) ⟨fun l => (@asI (l.length < 16777216) ⟨(P (.nx ev) (S1.set n (.lst (l ++ [x]))))⟩)⟩)⟩) := by simp only [wpI_eq, wpOI_eq, brI_eq, asI_eq]; exact q_app_cel h hn
theorem w_clr_ow {i : Nat} {l : List D} (h : ev[i]? = some (.ow l)) : (@wpI _ xp (evT C g (.clr i) ev S) ⟨P⟩) = P (.nx (ev.set i (.ow []))) S := by simp only [wpI_eq, wpOI_eq, brI_eq, asI_eq]; exact q_clr_ow h
theorem w_clr_cel {i n : Nat} {l : List D} (h : ev[i]? = some (.va (.cel n))) (hn : S[n]? = some (.lst l)) : (@wpI _ xp (evT C g (.clr i) ev S) ⟨P⟩) = P (.nx ev) (S.set n (.lst [])) := by simp only [wpI_eq, wpOI_eq, brI_eq, asI_eq]; exact q_clr_cel h hn
@[simp] theorem w_ifs {c : E} {a b : List T} : (@wpI _ xp (evT C g (.ifs c a b) ev S) ⟨P⟩) = (@wpI _ xp (evE C c ev S) ⟨fun x S1 => (@wpOI _ (truD x) ⟨fun k => (@brI k ⟨((@wpI _ xp (evTs C g a ev S1) ⟨P⟩))⟩ ⟨((@wpI _ xp (evTs C g b ev S1) ⟨P⟩))⟩)⟩)⟩) := by simp only [wpI_eq, wpOI_eq, brI_eq, asI_eq]; exact q_ifs
@[simp] theorem w_fr {tg : Tg} {it : I} {b : List T} : (@wpI _ xp (evT C g (.fr tg it b) ev S) ⟨P⟩) = (@wpI _ xp (evI C it ev S) ⟨fun q S1 => (@wpI _ xp (goFor q.2 (frTurn C g tg b) q.1 ev S1) ⟨P⟩)⟩) := by simp only [wpI_eq, wpOI_eq, brI_eq, asI_eq]; exact q_fr
@[simp] theorem w_frTurn {tg : Tg} {b : List T} {d : D} : (@wpI _ xp (frTurn C g tg b d ev S) ⟨P⟩) = (@wpOI _ (setT tg d ev) ⟨fun ev2 => (@wpI _ xp (evTs C g b ev2 S) ⟨P⟩)⟩) := by simp only [wpI_eq, wpOI_eq, brI_eq, asI_eq]; exact q_frTurn
@[simp] theorem w_ret {e : E} : (@wpI _ xp (evT C g (.ret e) ev S) ⟨P⟩) = (@wpI _ xp (evE C e ev S) ⟨fun x S1 => P (.rt x) S1⟩) := by simp only [wpI_eq, wpOI_eq, brI_eq, asI_eq]; exact q_ret
@[simp] theorem w_retN : (@wpI _ xp (evT C g .retN ev S) ⟨P⟩) = P (.rt .non) S := by simp only [wpI_eq, wpOI_eq, brI_eq, asI_eq]; exact q_retN
@[simp] theorem w_pass : (@wpI _ xp (evT C g .pass ev S) ⟨P⟩) = P (.nx ev) S := by simp only [wpI_eq, wpOI_eq, brI_eq, asI_eq]; exact q_pass
@[simp] theorem w_brk : (@wpI _ xp (evT C g .brk ev S) ⟨P⟩) = P (.bk ev) S := by simp only [wpI_eq, wpOI_eq, brI_eq, asI_eq]; exact q_brk
@[simp] theorem w_cont : (@wpI _ xp (evT C g .cont ev S) ⟨P⟩) = P (.ct ev) S := by simp only [wpI_eq, wpOI_eq, brI_eq, asI_eq]; exact q_cont
@[simp] theorem w_nev : (@wpI _ xp (evT C g .nev ev S) ⟨P⟩) = False := by simp only [wpI_eq, wpOI_eq, brI_eq, asI_eq]; exact q_nev
@[simp] theorem w_raise {c : Nat} {ns : List Str} {es : List E} : (@wpI _ xp (evT C g (.raise c ns es) ev S) ⟨P⟩) = (@wpI _ xp (evEs C es ev S) ⟨fun l S1 => (@asI ((ns.length == l.length) = true) ⟨(xp.x ⟨c, ns.reverse, l.reverse⟩ S1)⟩)⟩) := by simp only [wpI_eq, wpOI_eq, brI_eq, asI_eq]; exact q_raise
@[simp] theorem w_appE {a e : E} : (@wpI _ xp (evT C g (.appE a e) ev S) ⟨P⟩) = (@wpI _ xp (evE C a ev S) ⟨fun o S1 => (@wpOI _ (celO o) ⟨fun n => (@wpOI _ (lstC S1[n]?) ⟨fun _ => (@wpI _ xp (evE C e ev S1) ⟨fun x S2 => (@wpOI _ (lstC S2[n]?) ⟨fun l => (@asI (l.length < 16777216) ⟨(P (.nx ev) (S2.set n (.lst (l ++ [x]))))⟩)⟩)⟩)⟩)⟩)⟩) := by simp only [wpI_eq, wpOI_eq, brI_eq, asI_eq]; exact q_appE
@[simp] theorem x_tr {k : Bk} {e : E} {hs : List Hd} : @wpI _ xp (evT C g (.tr k e hs) ev S) ⟨P⟩ = @wpI _ ⟨trX ev P xp hs⟩ (evE C e ev S) ⟨trP k ev P⟩ := by simp only [wpI_eq, wpOI_eq, brI_eq, asI_eq]; exact q_tr
@[simp] theorem trP_ex {x : D} : trP .ex ev P x S = P (.nx ev) S := rfl
@[simp] theorem trP_ret {x : D} : trP .ret ev P x S = P (.rt x) S := rfl
@[simp] theorem trP_asg {x : D} {tg : Tg} : trP (.asg tg) ev P x S = @wpOI _ (setT tg x ev) ⟨fun ev1 => P (.nx ev1) S⟩ := by simp only [trP, wpOI_eq]
@[simp] theorem trX_nil {x : Exn} : trX ev P xp [] x S = xp.x x S := rfl
@[simp] theorem trX_cons {x : Exn} {h : Hd} {r : List Hd} : trX ev P xp (h :: r) x S = @brI (catB x h) ⟨suK x (asE ev h.as) S P h.su⟩ ⟨trX ev P xp r x S⟩ := by simp only [trX, brI_eq]
@[simp] theorem suK_asg {x : Exn} {i : Nat} {e : SE} : suK x ev S P (.asg i e) = @wpOI _ (evSE x e) ⟨fun d => @asI (i < ev.length) ⟨P (.nx (ev.set i (.va d))) S⟩⟩ := by simp only [suK, wpOI_eq, asI_eq]
@[simp] theorem suK_ret {x : Exn} {e : SE} : suK x ev S P (.ret e) = @wpOI _ (evSE x e) ⟨fun d => P (.rt d) S⟩ := by simp only [suK, wpOI_eq]
@[simp] theorem suK_pass {x : Exn} : suK x ev S P .pass = P (.nx ev) S := rfl
@[simp] theorem asE_none : asE ev none = ev := rfl
@[simp] theorem asE_some {i : Nat} : asE ev (some i) = ev.set i .no := rfl
@[simp] theorem catB_mk {c : Nat} {ns : List Str} {vs : List D} {c' : Nat} {a : Option Nat} {su : SU} : catB ⟨c, ns, vs⟩ ⟨c', a, su⟩ = (c == c' || c' == 0) := rfl
@[simp] theorem evSE_fld {x : Exn} {f : Str} : evSE x (.fld f) = getF f x.ns x.vs := by simp only [evSE]
@[simp] theorem evSE_con {x : Exn} {c : Const} : evSE x (.con c) = conD c := by simp only [evSE]
@[simp] theorem evSE_tup {x : Exn} {l : List SE} : evSE x (.tup l) = (evSEs x l).map .tup := by simp only [evSE]
@[simp] theorem evSEs_nil {x : Exn} : evSEs x [] = some [] := by simp only [evSEs]
@[simp] theorem evSEs_cons {x : Exn} {e : SE} {l : List SE} : evSEs x (e :: l) = (evSE x e).bind fun d => (evSEs x l).map (d :: ·) := by
  simp only [evSEs]
  cases evSE x e with
  | none => rfl
  | some d => cases evSEs x l <;> rfl
def exK (C : Cl) [xp : XPost] (i : Nat) (e : E) (ev : Ev) (S : Store) (P : Fl → Store → Prop) : Option Sl → Prop
  | some (.ow l) => @wpI _ xp (evE C e ev S) ⟨fun x S1 => @wpOI _ (lstO x) ⟨fun m => @asI (lineB (l.length + m.length) = true) ⟨P (.nx (ev.set i (.ow (l ++ m)))) S1⟩⟩⟩
  | some (.va (.cel n)) => @wpOI _ (lstC S[n]?) ⟨fun _ => @wpI _ xp (evE C e ev S) ⟨fun x S1 => @wpOI _ (lstO x) ⟨fun m => @wpOI _ (lstC S1[n]?) ⟨fun l => @asI (lineB (l.length + m.length) = true) ⟨P (.nx ev) (S1.set n (.lst (l ++ m)))⟩⟩⟩⟩⟩
  | _ => False
@[simp] theorem x_ext {i : Nat} {e : E} : @wpI _ xp (evT C g (.ext i e) ev S) ⟨P⟩ = exK C i e ev S P ev[i]? := by
  rw [wpI_eq]
  refine q_ext.trans ?_
  cases ev[i]? with
  | none => rfl
  | some s =>
    cases s with
    | no => rfl
    | th => rfl
    | ow l => simp only [extK, exK, wpI_eq, wpOI_eq, asI_eq]
    | va d => cases d <;> first | rfl | simp only [extK, exK, wpI_eq, wpOI_eq, asI_eq]
@[simp] theorem exK_ow {i : Nat} {e : E} {l : List D} : exK C i e ev S P (some (.ow l)) = @wpI _ xp (evE C e ev S) ⟨fun x S1 => @wpOI _ (lstO x) ⟨fun m => @asI (lineB (l.length + m.length) = true) ⟨P (.nx (ev.set i (.ow (l ++ m)))) S1⟩⟩⟩ := rfl
@[simp] theorem exK_cel {i n : Nat} {e : E} : exK C i e ev S P (some (.va (.cel n))) = @wpOI _ (lstC S[n]?) ⟨fun _ => @wpI _ xp (evE C e ev S) ⟨fun x S1 => @wpOI _ (lstO x) ⟨fun m => @wpOI _ (lstC S1[n]?) ⟨fun l => @asI (lineB (l.length + m.length) = true) ⟨P (.nx ev) (S1.set n (.lst (l ++ m)))⟩⟩⟩⟩⟩ := rfl
def exCK (C : Cl) [xp : XPost] (i : Nat) (e : E) (ev : Ev) (S : Store) (P : Fl → Store → Prop) : Option Sl → Prop
  | some (.ow l) => @wpI _ xp (evE C e ev S) ⟨fun x S1 => @wpOI _ (celL S1 x) ⟨fun m => @asI (lineB (l.length + m.length) = true) ⟨P (.nx (ev.set i (.ow (l ++ m)))) S1⟩⟩⟩
  | some (.va (.cel n)) => @wpOI _ (lstC S[n]?) ⟨fun _ => @wpI _ xp (evE C e ev S) ⟨fun x S1 => @wpOI _ (celL S1 x) ⟨fun m => @wpOI _ (lstC S1[n]?) ⟨fun l => @asI (lineB (l.length + m.length) = true) ⟨P (.nx ev) (S1.set n (.lst (l ++ m)))⟩⟩⟩⟩⟩
  | _ => False
@[simp] theorem x_extC {i : Nat} {e : E} : @wpI _ xp (evT C g (.extC i e) ev S) ⟨P⟩ = exCK C i e ev S P ev[i]? := by
  rw [wpI_eq]
  refine q_extC.trans ?_
  cases ev[i]? with
  | none => rfl
  | some s =>
    cases s with
    | no => rfl
    | th => rfl
    | ow l => simp only [extCK, exCK, wpI_eq, wpOI_eq, asI_eq]
    | va d => cases d <;> first | rfl | simp only [extCK, exCK, wpI_eq, wpOI_eq, asI_eq]
@[simp] theorem exCK_ow {i : Nat} {e : E} {l : List D} : exCK C i e ev S P (some (.ow l)) = @wpI _ xp (evE C e ev S) ⟨fun x S1 => @wpOI _ (celL S1 x) ⟨fun m => @asI (lineB (l.length + m.length) = true) ⟨P (.nx (ev.set i (.ow (l ++ m)))) S1⟩⟩⟩ := rfl
@[simp] theorem exCK_cel {i n : Nat} {e : E} : exCK C i e ev S P (some (.va (.cel n))) = @wpOI _ (lstC S[n]?) ⟨fun _ => @wpI _ xp (evE C e ev S) ⟨fun x S1 => @wpOI _ (celL S1 x) ⟨fun m => @wpOI _ (lstC S1[n]?) ⟨fun l => @asI (lineB (l.length + m.length) = true) ⟨P (.nx ev) (S1.set n (.lst (l ++ m)))⟩⟩⟩⟩⟩ := rfl
@[simp] theorem celL_cel {n : Nat} : celL S (.cel n) = lstC S[n]? := rfl
@[simp] theorem w_asgO {i : Nat} {k e : E} : (@wpI _ xp (evT C g (.asgO i k e) ev S) ⟨P⟩) = (@wpI _ xp (evE C e ev S) ⟨fun x S1 => (@wpOI _ (owO ev[i]?) ⟨fun l => (@wpI _ xp (evE C k ev S1) ⟨fun k S2 => (@wpOI _ (intX k) ⟨fun k => (@wpOI _ (ixN l.length k) ⟨fun j => P (.nx (ev.set i (.ow (l.set j x)))) S2⟩)⟩)⟩)⟩)⟩) := by simp only [wpI_eq, wpOI_eq, brI_eq, asI_eq]; exact q_asgO
@[simp] theorem owO_ow {l : List D} : owO (some (.ow l)) = some l := rfl
@[simp] theorem intX_int {i : Int} : intX (.int i) = some i := rfl
@[simp] theorem celO_cel {n : Nat} : celO (.cel n) = some n := rfl
@[simp] theorem lstC_s {l : List D} : lstC (some (.lst l)) = some l := rfl
@[simp] theorem w_wh {c : E} {b : List T} : (@wpI _ xp (evT C g (.wh c b) ev S) ⟨P⟩) = (@wpI _ xp (goWh (whTest C c) (whTurn C g b) g ev S) ⟨P⟩) := by simp only [wpI_eq, wpOI_eq, brI_eq, asI_eq]; exact q_wh
@[simp] theorem w_whTest {c : E} {Q : Bool → Store → Prop} : (@wpI _ xp (whTest C c ev S) ⟨Q⟩) = (@wpI _ xp (evE C c ev S) ⟨fun x S1 => (@wpOI _ (truD x) ⟨fun k => Q k S1⟩)⟩) := by simp only [wpI_eq, wpOI_eq, brI_eq, asI_eq]; exact q_whTest
@[simp] theorem w_whTurn {b : List T} : (@wpI _ xp (whTurn C g b ev S) ⟨P⟩) = (@wpI _ xp (evTs C g b ev S) ⟨P⟩) := by simp only [wpI_eq, wpOI_eq, brI_eq, asI_eq]; exact q_whTurn
@[simp] theorem w_frz {is : List Nat} {t : T} : (@wpI _ xp (evT C g (.frz is t) ev S) ⟨P⟩) = (@wpI _ xp (evT C g t (frzE ev is) S) ⟨P⟩) := by simp only [wpI_eq, wpOI_eq, brI_eq, asI_eq]; exact q_frz
@[simp] theorem w_par {is : List Nat} {es : List E} : (@wpI _ xp (evT C g (.par is es) ev S) ⟨P⟩) = (@wpI _ xp (evEs C es ev S) ⟨fun l S1 => (@asI (lineB l.length = true) ⟨((@wpOI _ (setTs (is.map Tg.nm) l ev) ⟨fun ev1 => P (.nx ev1) S1⟩))⟩)⟩) := by simp only [wpI_eq, wpOI_eq, brI_eq, asI_eq]; exact q_par
@[simp] theorem w_Ts0 : (@wpI _ xp (evTs C g [] ev S) ⟨P⟩) = P (.nx ev) S := by simp only [wpI_eq, wpOI_eq, brI_eq, asI_eq]; exact q_Ts0
def thn [xp : XPost] (C : Cl) (g : Nat) (ts : List T) (P : Fl → Store → Prop) : Fl → Store → Prop
  | .nx ev1, S1 => (@wpI _ xp (evTs C g ts ev1 S1) ⟨P⟩)
  | l, S1 => P l S1
@[simp] theorem thn_nx {ts : List T} : thn C g ts P (.nx ev) S = (@wpI _ xp (evTs C g ts ev S) ⟨P⟩) := Eq.trans rfl rfl
@[simp] theorem thn_rt {ts : List T} {d : D} : thn C g ts P (.rt d) S = P (.rt d) S := Eq.trans rfl rfl
@[simp] theorem thn_bk {ts : List T} : thn C g ts P (.bk ev) S = P (.bk ev) S := Eq.trans rfl rfl
@[simp] theorem thn_ct {ts : List T} : thn C g ts P (.ct ev) S = P (.ct ev) S := Eq.trans rfl rfl
@[simp] theorem w_Ts1 {t : T} {ts : List T} : (@wpI _ xp (evTs C g (t :: ts) ev S) ⟨P⟩) = (@wpI _ xp (evT C g t ev S) ⟨(thn C g ts P)⟩) := by
  simp only [evTs, wp_bind]
  congr 2; funext l S1
  cases l <;> simp [thn]
def fin (P : D → Store → Prop) : Fl → Store → Prop
  | .nx _, S => P .non S
  | .rt x, S => P x S
  | _, _ => False
@[simp] theorem fin_nx {P : D → Store → Prop} : fin P (.nx ev) S = P .non S := Eq.trans rfl rfl
@[simp] theorem fin_rt {P : D → Store → Prop} {x : D} : fin P (.rt x) S = P x S := Eq.trans rfl rfl
@[simp] theorem fin_bk {P : D → Store → Prop} : fin P (.bk ev) S = False := Eq.trans rfl rfl
@[simp] theorem fin_ct {P : D → Store → Prop} : fin P (.ct ev) S = False := Eq.trans rfl rfl
@[simp] theorem w_callT {f : Nat} {b : E} {P : D → Store → Prop} : (@wpI _ xp (evE C (.callT f b) ev S) ⟨P⟩) = (@wpI _ xp (C.fnT f (fun S1 => evE C b (capE ev) S1) S) ⟨P⟩) := by simp only [wpI_eq, wpOI_eq, brI_eq, asI_eq]; exact q_callT
@[simp] theorem w_thk {i : Nat} {P : D → Store → Prop} (h : ev[i]? = some Sl.th) : (@wpI _ xp (evE C (.thk i) ev S) ⟨P⟩) = (@wpI _ xp (C.th S) ⟨P⟩) := by simp only [wpI_eq, wpOI_eq, brI_eq, asI_eq]; exact q_thk h
theorem w_fnT {F : Nat → Option Fd} {n f : Nat} {d : Fd} {th : Store → Out D} {P : D → Store → Prop} (h : F f = some d) : (@wpI _ xp ((sem F g (n + 1)).fnT f th S) ⟨P⟩) = (@wpI _ xp (evTs { sem F g n with th := th } g d.body (Sl.th :: List.replicate (d.N.length - 1) Sl.no) S) ⟨(fin P)⟩) := by simp only [wpI_eq, wpOI_eq, brI_eq, asI_eq]; exact q_fnT h
@[simp] theorem capE_nil : capE [] = [] := rfl
def capS : Sl → Sl
  | .va d => .va d
  | _ => .no
@[simp] theorem capE_cons {x : Sl} {r : Ev} : capE (x :: r) = capS x :: capE r := by cases x <;> rfl
@[simp] theorem capS_va {d : D} : capS (.va d) = .va d := rfl
@[simp] theorem capS_no : capS .no = .no := rfl
@[simp] theorem capS_ow {l : List D} : capS (.ow l) = .no := rfl
@[simp] theorem capS_th : capS .th = .no := rfl
theorem w_fn {F : Nat → Option Fd} {n f : Nat} {d : Fd} {l : List D} {P : D → Store → Prop} (h : F f = some d) (hl : l.length = d.ps.length) : (@wpI _ xp ((sem F g (n + 1)).fn f l [] [] S) ⟨P⟩) = (@wpI _ xp (evTs (sem F g n) g d.body (l.map Sl.va ++ List.replicate (d.N.length - l.length) Sl.no) S) ⟨(fin P)⟩) := by simp only [wpI_eq, wpOI_eq, brI_eq, asI_eq]; exact q_fn h hl
end

/-! ### turns -/
section
variable {xp : XPost}
theorem wp_goLc {gd : Gd} {f : D → Store → Out (Option D)} {P : List D → Store → Prop} (I : List D → List D → Store → Prop) (hg : ∀ o r S, I o r S → gdB gd S = true)
    (step : ∀ o d r S, I o (d :: r) S → wp (f d S) fun y S1 => I (o ++ y.toList) r S1) : ∀ (l : List D) (S : Store) (o : List D), I o l S → (∀ r S1, I (o ++ r) [] S1 → P r S1) → wp (goLc gd f l S) P
  | [], S, o, h, k => by
    simp only [goLc, hg _ _ _ h, if_true, wp_ok]
    exact k [] S (by rw [List.append_nil]; exact h)
  | d :: r, S, o, h, k => by
    simp only [goLc, hg _ _ _ h, if_true, wp_bind, wp_ok]
    refine (step o d r S h).imp fun y S1 q => ?_
    rw [wp_bind]
    refine wp_goLc I hg step r S1 (o ++ y.toList) q fun l S2 q2 => ?_
    cases y with
    | none => rw [wp_ok]; exact k _ _ (by simpa using q2)
    | some y => rw [wp_ok]; exact k _ _ (by simpa using q2)
/-- .. where each turn gives one item and nothing is changed -/
theorem wp_goLcP {gd : Gd} {f : D → Store → Out (Option D)} {P : List D → Store → Prop} (h : D → D) (S : Store) (hg : gdB gd S = true) : ∀ l : List D, (∀ d ∈ l, wp (f d S) fun y S1 => y = some (h d) ∧ S1 = S) → P (l.map h) S → wp (goLc gd f l S) P
  | [], _, k => by simp only [goLc, hg, if_true, wp_ok]; exact k
  | d :: r, q, k => by
    simp only [goLc, hg, if_true, wp_bind, wp_ok]
    refine (q d List.mem_cons_self).imp fun y S1 e => ?_
    obtain ⟨rfl, rfl⟩ := e
    rw [wp_bind]
    exact wp_goLcP h S1 hg r (fun d hd => q d (List.mem_cons_of_mem _ hd)) (wp_ok.mpr k)
/-- .. where each turn gives an item of some kind, and the store changes in some way -/
theorem wp_goLcR {gd : Gd} {f : D → Store → Out (Option D)} {P : List D → Store → Prop} (R : D → D → Prop) (W : Store → Prop) (hg : ∀ S, W S → gdB gd S = true) : ∀ (l : List D) (S : Store), W S → (∀ d ∈ l, ∀ S, W S → wp (f d S) fun y S1 => (∃ z, y = some z ∧ R d z) ∧ W S1) → (∀ r S1, W S1 → r.length = l.length → (∀ (i : Nat) (d z : D), l[i]? = some d → r[i]? = some z → R d z) → P r S1) → wp (goLc gd f l S) P
  | [], S, w, _, k => by
    simp only [goLc, hg S w, if_true, wp_ok]
    exact k [] S w rfl (fun i d z h _ => by simp at h)
  | d :: r, S, w, q, k => by
    simp only [goLc, hg S w, if_true, wp_bind, wp_ok]
    refine (q d List.mem_cons_self S w).imp fun y S1 ⟨⟨z, e, hz⟩, w1⟩ => ?_
    subst e
    rw [wp_bind]
    refine wp_goLcR R W hg r S1 w1 (fun d hd => q d (List.mem_cons_of_mem _ hd)) fun l S2 w2 hl hr => ?_
    rw [wp_ok]
    refine k (z :: l) S2 w2 (by simp [hl]) fun i d' z' h1 h2 => ?_
    cases i with
    | zero => simp at h1 h2; subst h1; subst h2; exact hz
    | succ i => simp at h1 h2; exact hr i d' z' h1 h2
theorem wp_goFor {gd : Gd} {f : D → Ev → Store → Out Fl} {P : Fl → Store → Prop} (J : List D → Ev → Store → Prop) (hg : ∀ r ev S, J r ev S → gdB gd S = true)
    (step : ∀ d r ev S, J (d :: r) ev S → wp (f d ev S) fun l S1 => match l with
      | .nx ev1 => J r ev1 S1
      | .ct ev1 => J r ev1 S1
      | .bk ev1 => P (.nx ev1) S1
      | .rt x => P (.rt x) S1) (fin : ∀ ev S, J [] ev S → P (.nx ev) S) : ∀ (l : List D) (ev : Ev) (S : Store), J l ev S → wp (goFor gd f l ev S) P
  | [], ev, S, h => by simp only [goFor, hg _ _ _ h, if_true, wp_ok]; exact fin _ _ h
  | d :: r, ev, S, h => by
    simp only [goFor, hg _ _ _ h, if_true, wp_bind]
    refine (step d r ev S h).imp fun l S1 q => ?_
    cases l with
    | nx ev1 => exact wp_goFor J hg step fin r ev1 S1 q
    | ct ev1 => exact wp_goFor J hg step fin r ev1 S1 q
    | bk ev1 => exact wp_ok.mpr q
    | rt x => exact wp_ok.mpr q
/-- a while: the gas that is left is at least n at the n-th turn from the end -/
theorem wp_goWh {c : Ev → Store → Out Bool} {f : Ev → Store → Out Fl} {P : Fl → Store → Prop} (J : Nat → Ev → Store → Prop)
    (step : ∀ n ev S, J n ev S → wp (c ev S) fun k S1 => (k = true → ∃ m, n = m + 1 ∧ wp (f ev S1) fun l S2 => match l with
      | .nx ev1 => J m ev1 S2
      | .ct ev1 => J m ev1 S2
      | .bk ev1 => P (.nx ev1) S2
      | .rt x => P (.rt x) S2) ∧ (k = false → P (.nx ev) S1)) : ∀ (n g : Nat) (ev : Ev) (S : Store), n < g → J n ev S → wp (goWh c f g ev S) P
  | n, 0, ev, S, h, _ => absurd h (Nat.not_lt_zero n)
  | n, g + 1, ev, S, h, j => by
    simp only [goWh, wp_bind]
    refine (step n ev S j).imp fun k S1 ⟨h1, h2⟩ => ?_
    cases k with
    | false => exact wp_ok.mpr (h2 rfl)
    | true =>
      obtain ⟨m, rfl, h3⟩ := h1 rfl
      rw [if_pos rfl, wp_bind]
      refine h3.imp fun l S2 q => ?_
      cases l with
      | nx ev1 => exact wp_goWh J step m g ev1 S2 (by omega) q
      | ct ev1 => exact wp_goWh J step m g ev1 S2 (by omega) q
      | bk ev1 => exact wp_ok.mpr q
      | rt x => exact wp_ok.mpr q
end
/-! ### equality of data -/
mutual
/-- numbers, texts, lists and tuples of them, n deep -/
def cle : Nat → D → Bool
  | _, .int _ => true
  | _, .str x => PyData.strOk x
  | n + 1, .tup l => cles n l
  | n + 1, .lst l => cles n l
  | _, _ => false
def cles : Nat → List D → Bool
  | _, [] => true
  | n, d :: r => cle n d && cles n r
end
theorem toP_tup {l : List D} {q : PyData} (h : toP (.tup l) = some q) : ∃ l', toP.toPs l = some l' ∧ q = .tuple l' := by
  simp only [toP] at h
  cases z : toP.toPs l with
  | none => rw [z] at h; cases h
  | some l' => rw [z] at h; cases h; exact ⟨l', rfl, rfl⟩
theorem toP_lst {l : List D} {q : PyData} (h : toP (.lst l) = some q) : ∃ l', toP.toPs l = some l' ∧ q = .list l' := by
  simp only [toP] at h
  cases z : toP.toPs l with
  | none => rw [z] at h; cases h
  | some l' => rw [z] at h; cases h; exact ⟨l', rfl, rfl⟩
theorem toPs_cons {d : D} {r : List D} {q : List PyData} (h : toP.toPs (d :: r) = some q) : ∃ p l, toP d = some p ∧ toP.toPs r = some l ∧ q = p :: l := by
  simp only [toP.toPs] at h
  cases z : toP d with
  | none => rw [z] at h; cases h
  | some p =>
    cases z2 : toP.toPs r with
    | none => rw [z, z2] at h; cases h
    | some l => rw [z, z2] at h; cases h; exact ⟨p, l, rfl, rfl, rfl⟩
mutual
theorem toP_cle : ∀ (n : Nat) (a : D), cle n a = true → ∃ p, toP a = some p ∧ p.canLay0 = true ∧ p.depth ≤ n
  | _, .int i, _ => ⟨_, rfl, by simp [PyData.canLay0], by simp [PyData.depth]⟩
  | n, .str x, h => ⟨_, rfl, by simpa [PyData.canLay0, cle] using h, by simp [PyData.depth]⟩
  | n + 1, .tup l, h => by
    obtain ⟨q, h1, h2, h3⟩ := toPs_cle n l (by simpa [cle] using h)
    exact ⟨.tuple q, by simp [toP, h1], by simpa [PyData.canLay0] using h2, by simp [PyData.depth]; omega⟩
  | n + 1, .lst l, h => by
    obtain ⟨q, h1, h2, h3⟩ := toPs_cle n l (by simpa [cle] using h)
    exact ⟨.list q, by simp [toP, h1], by simpa [PyData.canLay0] using h2, by simp [PyData.depth]; omega⟩
  | 0, .tup l, h => by simp [cle] at h
  | 0, .lst l, h => by simp [cle] at h
  | _, .non, h => by simp [cle] at h
  | _, .bl _, h => by simp [cle] at h
  | _, .ins _ _ _, h => by simp [cle] at h
  | _, .cel _, h => by simp [cle] at h
  | _, .tpf _, h => by simp [cle] at h
  | _, .dic, h => by simp [cle] at h
theorem toPs_cle : ∀ (n : Nat) (a : List D), cles n a = true → ∃ p, toP.toPs a = some p ∧ PyData.canLayAll0 p = true ∧ PyData.depthAll p ≤ n
  | _, [], _ => ⟨[], rfl, by simp [PyData.canLayAll0], by simp [PyData.depthAll]⟩
  | n, d :: r, h => by
    simp only [cles, Bool.and_eq_true] at h
    obtain ⟨p, h1, h2, h3⟩ := toP_cle n d h.1
    obtain ⟨q, k1, k2, k3⟩ := toPs_cle n r h.2
    exact ⟨p :: q, by simp [toP.toPs, h1, k1], by simp [PyData.canLayAll0, h2, k2], by simp [PyData.depthAll]; omega⟩
end
mutual
theorem eqv_same : ∀ (n m : Nat) (a b : D) (p q : PyData), cle n a = true → cle m b = true → toP a = some p → toP b = some q → PyData.eqv p q = sameD a b
  | n, m, .int i, b, p, q, ha, hb, ea, eb => by
    simp only [toP] at ea; cases ea
    cases b with
    | int j => simp only [toP] at eb; cases eb; simp only [PyData.eqv, sameD]
    | str y => simp only [toP] at eb; cases eb; simp only [PyData.eqv, sameD]
    | tup l => obtain ⟨l', _, rfl⟩ := toP_tup eb; simp only [PyData.eqv, sameD]
    | lst l => obtain ⟨l', _, rfl⟩ := toP_lst eb; simp only [PyData.eqv, sameD]
    | _ => cases m <;> simp [cle] at hb
  | n, m, .str i, b, p, q, ha, hb, ea, eb => by
    simp only [toP] at ea; cases ea
    cases b with
    | int j => simp only [toP] at eb; cases eb; simp only [PyData.eqv, sameD]
    | str y => simp only [toP] at eb; cases eb; simp only [PyData.eqv, sameD]; by_cases h : i = y <;> simp [h]
    | tup l => obtain ⟨l', _, rfl⟩ := toP_tup eb; simp only [PyData.eqv, sameD]
    | lst l => obtain ⟨l', _, rfl⟩ := toP_lst eb; simp only [PyData.eqv, sameD]
    | _ => cases m <;> simp [cle] at hb
  | n + 1, m, .tup k, b, p, q, ha, hb, ea, eb => by
    obtain ⟨k', ek, rfl⟩ := toP_tup ea
    cases b with
    | int j => simp only [toP] at eb; cases eb; simp only [PyData.eqv, sameD]
    | str y => simp only [toP] at eb; cases eb; simp only [PyData.eqv, sameD]
    | tup l =>
      obtain ⟨l', el, rfl⟩ := toP_tup eb
      cases m with
      | zero => simp [cle] at hb
      | succ m =>
        simp only [PyData.eqv, sameD]
        exact eqvs_same n m k l k' l' (by simpa [cle] using ha) (by simpa [cle] using hb) ek el
    | lst l => obtain ⟨l', _, rfl⟩ := toP_lst eb; simp only [PyData.eqv, sameD]
    | _ => cases m <;> simp [cle] at hb
  | n + 1, m, .lst k, b, p, q, ha, hb, ea, eb => by
    obtain ⟨k', ek, rfl⟩ := toP_lst ea
    cases b with
    | int j => simp only [toP] at eb; cases eb; simp only [PyData.eqv, sameD]
    | str y => simp only [toP] at eb; cases eb; simp only [PyData.eqv, sameD]
    | lst l =>
      obtain ⟨l', el, rfl⟩ := toP_lst eb
      cases m with
      | zero => simp [cle] at hb
      | succ m =>
        simp only [PyData.eqv, sameD]
        exact eqvs_same n m k l k' l' (by simpa [cle] using ha) (by simpa [cle] using hb) ek el
    | tup l => obtain ⟨l', _, rfl⟩ := toP_tup eb; simp only [PyData.eqv, sameD]
    | _ => cases m <;> simp [cle] at hb
  | 0, _, .tup l, _, _, _, h, _, _, _ => by simp [cle] at h
  | 0, _, .lst l, _, _, _, h, _, _, _ => by simp [cle] at h
  | _, _, .non, _, _, _, h, _, _, _ => by simp [cle] at h
  | _, _, .bl _, _, _, _, h, _, _, _ => by simp [cle] at h
  | _, _, .ins _ _ _, _, _, _, h, _, _, _ => by simp [cle] at h
  | _, _, .cel _, _, _, _, h, _, _, _ => by simp [cle] at h
  | _, _, .tpf _, _, _, _, h, _, _, _ => by simp [cle] at h
  | _, _, .dic, _, _, _, h, _, _, _ => by simp [cle] at h
theorem eqvs_same : ∀ (n m : Nat) (a b : List D) (p q : List PyData), cles n a = true → cles m b = true → toP.toPs a = some p → toP.toPs b = some q → PyData.eqvAll p q = sameDs a b
  | _, _, [], [], p, q, _, _, ea, eb => by simp only [toP.toPs] at ea eb; cases ea; cases eb; simp only [PyData.eqvAll, sameDs]
  | _, _, [], b :: bs, p, q, _, _, ea, eb => by
    simp only [toP.toPs] at ea; cases ea
    obtain ⟨q1, l1, _, _, rfl⟩ := toPs_cons eb
    simp only [PyData.eqvAll, sameDs]
  | _, _, a :: as, [], p, q, _, _, ea, eb => by
    simp only [toP.toPs] at eb; cases eb
    obtain ⟨q1, l1, _, _, rfl⟩ := toPs_cons ea
    simp only [PyData.eqvAll, sameDs]
  | n, m, a :: as, b :: bs, p, q, ha, hb, ea, eb => by
    obtain ⟨p1, k1, e1, e2, rfl⟩ := toPs_cons ea
    obtain ⟨q1, l1, e3, e4, rfl⟩ := toPs_cons eb
    simp only [cles, Bool.and_eq_true] at ha hb
    simp only [PyData.eqvAll, sameDs, eqv_same n m a b p1 q1 ha.1 hb.1 e1 e3, eqvs_same n m as bs k1 l1 ha.2 hb.2 e2 e4]
end
theorem sameD_dec {a b : D} : (sameD a b = true) ↔ a = b := ⟨sameD_eq a b, fun e => by subst e; exact sameD_self a⟩
theorem eqD_cle {n m : Nat} {a b : D} (ha : cle n a = true) (hb : cle m b = true) (hn : n ≤ 64) (hm : m ≤ 64) : eqD a b = some (sameD a b) := by
  obtain ⟨p, e1, c1, d1⟩ := toP_cle n a ha
  obtain ⟨q, e2, c2, d2⟩ := toP_cle m b hb
  unfold eqD
  rw [e1, e2]
  have s1 : SeqAt.shaped p = true := by unfold SeqAt.shaped; rw [c1]; simp; omega
  have s2 : SeqAt.shaped q = true := by unfold SeqAt.shaped; rw [c2]; simp; omega
  simp only [s1, s2, Bool.and_self, if_true, eqv_same n m a b p q ha hb e1 e2]
theorem eqD_self {n : Nat} {a : D} (ha : cle n a = true) (hn : n ≤ 64) : eqD a a = some true := by rw [eqD_cle ha ha hn hn, sameD_self]
theorem eqD_ne {n m : Nat} {a b : D} (ha : cle n a = true) (hb : cle m b = true) (hn : n ≤ 64) (hm : m ≤ 64) (h : a ≠ b) : eqD a b = some false := by
  rw [eqD_cle ha hb hn hm]
  congr 1
  cases z : sameD a b with
  | false => rfl
  | true => exact absurd (sameD_eq _ _ z) h
@[simp] theorem eqD_int {i j : Int} : eqD (.int i) (.int j) = some (decide (i = j)) := by
  rw [eqD_cle (n := 0) (m := 0) rfl rfl (by omega) (by omega)]; simp only [sameD]
  by_cases h : i = j <;> simp [h]
theorem cle_mono : ∀ (n : Nat) (a : D), cle n a = true → cle (n + 1) a = true ∧ True := fun n a h => by
  have go : (∀ (a : D) (n : Nat), cle n a = true → cle (n + 1) a = true) := by
    intro a
    refine D.rec (motive_1 := fun a => ∀ n, cle n a = true → cle (n + 1) a = true) (motive_2 := fun l => ∀ n, cles n l = true → cles (n + 1) l = true) ?_ ?_ ?_ ?_ ?_ ?_ ?_ ?_ ?_ ?_ ?_ ?_ a
    · intro n h; simp [cle] at h
    · intro b n h; simp [cle] at h
    · intro i n _; simp [cle]
    · intro x n h; simpa [cle] using h
    · intro l ih n h
      cases n with
      | zero => simp [cle] at h
      | succ n => simp only [cle] at h ⊢; exact ih n h
    · intro l ih n h
      cases n with
      | zero => simp [cle] at h
      | succ n => simp only [cle] at h ⊢; exact ih n h
    · intro c ns vs _ n h; simp [cle] at h
    · intro c n h; simp [cle] at h
    · intro l _ n h; simp [cle] at h
    · intro n h; simp [cle] at h
    · intro n _; simp [cles]
    · intro d r ih1 ih2 n h
      simp only [cles, Bool.and_eq_true] at h ⊢
      exact ⟨ih1 n h.1, ih2 n h.2⟩
  exact ⟨go a n h, trivial⟩
theorem cles_all {n : Nat} : ∀ {l : List D}, (∀ d ∈ l, cle n d = true) → cles n l = true
  | [], _ => by simp only [cles]
  | d :: r, h => by simp only [cles, h d List.mem_cons_self, cles_all (l := r) fun d hd => h d (List.mem_cons_of_mem _ hd), Bool.and_self]
theorem cles_ints {n : Nat} (l : List Int) : cles n (l.map D.int) = true := cles_all fun d hd => by
  obtain ⟨i, _, rfl⟩ := List.mem_map.mp hd
  cases n <;> rfl
end Mp

set_option Elab.async false
set_option linter.all false
set_option maxRecDepth 100000
set_option autoImplicit false
set_option maxHeartbeats 1000000
/-! Common to the laws: names' values, stores, draws, rows. -/
namespace Mp
open PySem L2
variable {xp : XPost}
@[simp] theorem getS_z {d : D} {r : Ev} : getS (.va d :: r) 0 = some d := rfl
@[simp] theorem getS_s {s : Sl} {r : Ev} {i : Nat} : getS (s :: r) (i + 1) = getS r i := rfl
@[simp] theorem peekS_z {d : D} {r : Ev} : peekS (.va d :: r) 0 = some d := rfl
@[simp] theorem peekS_zo {d : List D} {r : Ev} : peekS (.ow d :: r) 0 = some (.lst d) := rfl
@[simp] theorem peekS_s {s : Sl} {r : Ev} {i : Nat} : peekS (s :: r) (i + 1) = peekS r i := rfl
@[simp] theorem setT_nm {i : Nat} {d : D} {ev : Ev} (h : i < ev.length) : setT (.nm i) d ev = some (ev.set i (.va d)) := by simp [setT, h]
@[simp] theorem setT_tp {ts : List Tg} {l : List D} {ev : Ev} : setT (.tp ts) (.tup l) ev = setTs ts l ev := by simp [setT]
@[simp] theorem setTs_nil {ev : Ev} : setTs [] [] ev = some ev := by simp [setTs]
@[simp] theorem setTs_cons {t : Tg} {ts : List Tg} {d : D} {ds : List D} {ev : Ev} : setTs (t :: ts) (d :: ds) ev = (setT t d ev).bind fun ev' => setTs ts ds ev' := by
  simp only [setTs]; cases setT t d ev <;> rfl
@[simp] theorem wpO_bind {α β : Type} {o : Option α} {f : α → Option β} {P : β → Prop} : @wpOI _ (o.bind f) ⟨P⟩ = @wpOI _ o ⟨fun a => @wpOI _ (f a) ⟨P⟩⟩ := by cases o <;> simp
@[simp] theorem conD_none : conD .none = some .non := rfl
@[simp] theorem conD_bool {b : Bool} : conD (.bool b) = some (.bl b) := rfl
@[simp] theorem conD_int {i : Int} : conD (.int i) = some (.int i) := rfl
@[simp] theorem conD_str {i : Str} : conD (.str i) = some (.str i) := rfl
@[simp] theorem truD_non : truD .non = some false := rfl
@[simp] theorem truD_bl {b : Bool} : truD (.bl b) = some b := rfl
@[simp] theorem truD_int {b : Int} : truD (.int b) = some (b != 0) := rfl
@[simp] theorem okI_int {S : Store} {i : Int} : okI S (.int i) = true := rfl
@[simp] theorem okI_str {S : Store} {i : Str} : okI S (.str i) = true := rfl
@[simp] theorem okI_tup {S : Store} {i : List D} : okI S (.tup i) = true := rfl
@[simp] theorem okI_lst {S : Store} {i : List D} : okI S (.lst i) = true := rfl
@[simp] theorem okI_non {S : Store} : okI S .non = true := rfl
@[simp] theorem okI_dic {S : Store} : okI S .dic = true := rfl
@[simp] theorem okI_bl {S : Store} {b : Bool} : okI S (.bl b) = true := rfl
@[simp] theorem okI_ins {S : Store} {c : Nat} {ns : List Str} {vs : List D} : okI S (.ins c ns vs) = true := rfl
def isInt : D → Bool
  | .int _ => true
  | _ => false
/-- a list or a tuple -/
inductive AsSeq (S : Store) : D → List D → Prop
  | lst (l : List D) : AsSeq S (.lst l) l
  | tup (l : List D) : AsSeq S (.tup l) l
  | cel {n : Nat} {l : List D} (h : S[n]? = some (.lst l)) : AsSeq S (.cel n) l
/-! ### numbers -/
section
variable {i j : Int}
@[simp] theorem bin_add : binD .Add (.int i) (.int j) = some (.int (i + j)) := rfl
@[simp] theorem bin_sub : binD .Sub (.int i) (.int j) = some (.int (i - j)) := rfl
@[simp] theorem bin_mul (h : mulB i j = true) : binD .Mult (.int i) (.int j) = some (.int (i * j)) := by simp [binD, h]
@[simp] theorem bin_mod (h : 0 < j) : binD .Mod (.int i) (.int j) = some (.int (i % j)) := by simp [binD, h]
@[simp] theorem bin_div (h : divB j = true) : binD .FloorDiv (.int i) (.int j) = some (.int (i / j)) := by simp [binD, h]
@[simp] theorem bin_shl (h : powB i j = true) : binD .LShift (.int i) (.int j) = some (.int (i * 2 ^ j.toNat)) := by simp [binD, h]
@[simp] theorem bin_pow (h : powB i j = true) : binD .Pow (.int i) (.int j) = some (.int (i ^ j.toNat)) := by simp [binD, h]
theorem mulB_l (h : i.natAbs < 2 ^ 64) : mulB i j = true := by unfold mulB; simp only [decide_eq_true h, Bool.true_or]
theorem mulB_r (h : j.natAbs < 2 ^ 64) : mulB i j = true := by unfold mulB; simp only [decide_eq_true h, Bool.true_or, Bool.or_true]
@[simp] theorem mulB_rn {n : Nat} (h : n < 18446744073709551616) : mulB i (no_index (@OfNat.ofNat Int n _)) = true := mulB_r (by
  show (Int.ofNat n).natAbs < _
  exact h)
@[simp] theorem mulB_ln {n : Nat} (h : n < 18446744073709551616) : mulB (no_index (@OfNat.ofNat Int n _)) i = true := mulB_l (by
  show (Int.ofNat n).natAbs < _
  exact h)
theorem divB_def {j : Int} : divB j = (decide (0 < j) && decide (j < 2 ^ 8000)) := by unfold divB; rfl
@[simp] theorem divB_small (h0 : 0 < j) (h : j < 2 ^ 64) : divB j = true := by
  have h2 : (2 : Int) ^ 64 ≤ 2 ^ 8000 := by
    have : (2 : Nat) ^ 64 ≤ 2 ^ 8000 := Nat.pow_le_pow_right (by decide) (by decide)
    exact_mod_cast this
  rw [divB_def, decide_eq_true h0, decide_eq_true (Int.lt_of_lt_of_le h h2)]; rfl
@[simp] theorem powB_small (h0 : 0 ≤ j) (h1 : j ≤ 1000000) (h : i.natAbs < 2 ^ 64) : powB i j = true := by unfold powB; simp only [decide_eq_true h0, decide_eq_true h1, decide_eq_true h, Bool.and_self]
@[simp] theorem lineB_small {n : Nat} (h : n ≤ 16777216) : lineB n = true := decide_eq_true h
@[simp] theorem cmp_lt : cmpD .Lt (.int i) (.int j) = some (decide (i < j)) := rfl
@[simp] theorem cmp_le : cmpD .LtE (.int i) (.int j) = some (decide (i ≤ j)) := rfl
@[simp] theorem cmp_gt : cmpD .Gt (.int i) (.int j) = some (decide (j < i)) := rfl
@[simp] theorem cmp_ge : cmpD .GtE (.int i) (.int j) = some (decide (j ≤ i)) := rfl
@[simp] theorem cmp_eq {a b : D} : cmpD .Eq a b = eqD a b := rfl
@[simp] theorem cmp_ne {a b : D} : cmpD .NotEq a b = (eqD a b).map (!·) := rfl
@[simp] theorem cmp_in {a b : D} : cmpD .In a b = inD a b := rfl
@[simp] theorem cmp_ni {a b : D} : cmpD .NotIn a b = (inD a b).map (!·) := rfl
@[simp] theorem bi_int {S : Store} : biD S .int [.int i] = some (.int i) := rfl
@[simp] theorem bi_intb {S : Store} {b : Bool} : biD S .int [.bl b] = some (.int (if b then 1 else 0)) := rfl
@[simp] theorem neg_int : negD (.int i) = some (.int (-i)) := rfl
@[simp] theorem intO_int : intO (.int i) = some (some i) := rfl
end
section
variable {S : Store} {l : List D}
@[simp] theorem bi_lenl : biD S .len [.lst l] = some (.int l.length) := rfl
@[simp] theorem bi_lent : biD S .len [.tup l] = some (.int l.length) := rfl
@[simp] theorem bi_tupl : biD S .tuple [.lst l] = some (.tup l) := rfl
@[simp] theorem bi_tupt : biD S .tuple [.tup l] = some (.tup l) := rfl
@[simp] theorem bi_lstl : biD S .list [.lst l] = some (.lst l) := rfl
@[simp] theorem bi_lstt : biD S .list [.tup l] = some (.lst l) := rfl
theorem AsSeq.len {v : D} (h : AsSeq S v l) : biD S .len [v] = some (.int l.length) := by
  cases h with
  | lst => rfl
  | tup => rfl
  | cel h => simp only [biD, h]
theorem AsSeq.tuple {v : D} (h : AsSeq S v l) : biD S .tuple [v] = some (.tup l) := by
  cases h with
  | lst => rfl
  | tup => rfl
  | cel h => simp only [biD, h]
theorem AsSeq.isS {v : D} (h : AsSeq S v l) : (isD S v .list || isD S v .tuple) = true := by
  cases h with
  | lst => rfl
  | tup => rfl
  | cel h => simp only [isD, h]; rfl
theorem AsSeq.ok {v : D} (h : AsSeq S v l) : okI S v = true := by
  cases h with
  | lst => rfl
  | tup => rfl
  | cel h => simp only [okI, h]
theorem AsSeq.enm {v : D} (h : AsSeq S v l) : ∃ gd, enmD S v = some (enmL l, gd) ∧ gdB gd S = true := by
  cases h with
  | lst => exact ⟨none, rfl, rfl⟩
  | tup => exact ⟨none, rfl, rfl⟩
  | cel h => exact ⟨_, by simp only [enmD, h]; rfl, by simp only [gdB, h, sameDs_self]⟩
theorem AsSeq.seq {v : D} (h : AsSeq S v l) : ∃ gd, seqD S v = some (l, gd) ∧ gdB gd S = true := by
  cases h with
  | lst => exact ⟨none, rfl, rfl⟩
  | tup => exact ⟨none, rfl, rfl⟩
  | cel h => exact ⟨_, by simp only [seqD, h]; rfl, by simp only [gdB, h, sameDs_self]⟩
theorem AsSeq.slc {v : D} (h : AsSeq S v l) (lo hi : Option Int) : ∃ w, slcD S v lo hi = some w ∧ (w = .lst (cutL l lo hi) ∨ w = .tup (cutL l lo hi)) := by
  cases h with
  | lst => exact ⟨_, rfl, .inl rfl⟩
  | tup => exact ⟨_, rfl, .inr rfl⟩
  | cel h => exact ⟨_, by simp only [slcD, h], .inl rfl⟩
@[simp] theorem gd_none : gdB none S = true := rfl
@[simp] theorem seq_lst : seqD S (.lst l) = some (l, none) := rfl
@[simp] theorem seq_tup : seqD S (.tup l) = some (l, none) := rfl
@[simp] theorem idx_lst {i : Int} : idxD S (.lst l) (.int i) = atI l i := rfl
@[simp] theorem idx_tup {i : Int} : idxD S (.tup l) (.int i) = atI l i := rfl
theorem atI_nat {α : Type} {xs : List α} {i : Int} (h0 : 0 ≤ i) (h1 : i < xs.length) : atI xs i = xs[i.toNat]? := by
  simp [atI, ixN, h0, h1]
theorem atI_mem {α : Type} {xs : List α} {i : Int} (h0 : 0 ≤ i) (h1 : i < xs.length) : ∃ x, atI xs i = some x ∧ x ∈ xs := by
  have h2 : i.toNat < xs.length := by omega
  exact ⟨xs[i.toNat], by rw [atI_nat h0 h1, List.getElem?_eq_getElem h2], List.getElem_mem h2⟩
@[simp] theorem atI_0 {α : Type} {x : α} {xs : List α} : atI (x :: xs) 0 = some x := by rw [atI_nat (by omega) (by simp only [List.length_cons]; omega)]; rfl
@[simp] theorem atI_1 {α : Type} {x y : α} {xs : List α} : atI (x :: y :: xs) 1 = some y := by rw [atI_nat (by omega) (by simp only [List.length_cons]; omega)]; rfl
@[simp] theorem atI_2 {α : Type} {x y z : α} {xs : List α} : atI (x :: y :: z :: xs) 2 = some z := by rw [atI_nat (by omega) (by simp only [List.length_cons]; omega)]; rfl
@[simp] theorem atI_3 {α : Type} {x y z u : α} {xs : List α} : atI (x :: y :: z :: u :: xs) 3 = some u := by rw [atI_nat (by omega) (by simp only [List.length_cons]; omega)]; rfl
theorem lineB_le {n : Nat} (h : n ≤ 16777216) : lineB n = true := decide_eq_true h
@[simp] theorem seqD_cel {n : Nat} (h : S[n]? = some (.lst l)) : seqD S (.cel n) = some (l, some (n, l)) := by simp only [seqD, h]
end
/-! ### turns, by their numbers -/
/-- behind a turn -/
def forK (J : Ev → Store → Prop) (P : Fl → Store → Prop) : Fl → Store → Prop
  | .nx ev, S => J ev S
  | .ct ev, S => J ev S
  | .bk ev, S => P (.nx ev) S
  | .rt x, S => P (.rt x) S
@[simp] theorem forK_nx {J : Ev → Store → Prop} {P : Fl → Store → Prop} {ev : Ev} {S : Store} : forK J P (.nx ev) S = J ev S := rfl
@[simp] theorem forK_ct {J : Ev → Store → Prop} {P : Fl → Store → Prop} {ev : Ev} {S : Store} : forK J P (.ct ev) S = J ev S := rfl
@[simp] theorem forK_bk {J : Ev → Store → Prop} {P : Fl → Store → Prop} {ev : Ev} {S : Store} : forK J P (.bk ev) S = P (.nx ev) S := rfl
@[simp] theorem forK_rt {J : Ev → Store → Prop} {P : Fl → Store → Prop} {x : D} {S : Store} : forK J P (.rt x) S = P (.rt x) S := rfl
theorem wp_goForI {gd : Gd} {f : D → Ev → Store → Out Fl} {P : Fl → Store → Prop} (L : List D) (J : Nat → Ev → Store → Prop) (hg : ∀ k ev S, J k ev S → gdB gd S = true)
    (step : ∀ k d ev S, L[k]? = some d → J k ev S → @wpI _ xp (f d ev S) ⟨forK (J (k + 1)) P⟩) (fin : ∀ ev S, J L.length ev S → P (.nx ev) S) {ev : Ev} {S : Store} (h : J 0 ev S) : wp (goFor gd f L ev S) P := by
  refine wp_goFor (fun r ev S => ∃ k, r = L.drop k ∧ k ≤ L.length ∧ J k ev S) (fun r ev S ⟨k, _, _, h⟩ => hg k ev S h) ?_ ?_ L ev S ⟨0, rfl, Nat.zero_le _, h⟩
  · rintro d r ev S ⟨k, e, hk, h⟩
    have hk1 : k < L.length := by
      by_cases z : k < L.length
      · exact z
      · rw [List.drop_eq_nil_of_le (by omega)] at e; cases e
    rw [List.drop_eq_getElem_cons hk1] at e
    cases e
    refine wp.imp (P := forK (J (k + 1)) P) (step k _ ev S (List.getElem?_eq_getElem hk1) h) fun l S1 q => ?_
    cases l with
    | nx ev1 => exact ⟨k + 1, rfl, hk1, q⟩
    | ct ev1 => exact ⟨k + 1, rfl, hk1, q⟩
    | bk ev1 => exact q
    | rt x => exact q
  · rintro ev S ⟨k, e, hk, h⟩
    have : k = L.length := by
      by_cases z : k < L.length
      · rw [List.drop_eq_getElem_cons z] at e; cases e
      · omega
    subst this
    exact fin ev S h
theorem enm_get {l : List D} {k : Nat} {d : D} (h : (enmL l)[k]? = some d) : ∃ x, l[k]? = some x ∧ d = .tup [.int k, x] := by
  unfold enmL at h
  rw [List.getElem?_map, List.getElem?_zipIdx] at h
  cases z : l[k]? with
  | none => rw [z] at h; cases h
  | some x => rw [z] at h; simp at h; exact ⟨x, rfl, h.symm⟩
@[simp] theorem enm_len {l : List D} : (enmL l).length = l.length := by simp [enmL]
theorem cutL_take {α : Type} {xs : List α} {k : Nat} : cutL xs none (some (k : Int)) = xs.take k := by
  simp only [cutL, HT.sIx_none, HT.sIx_nat]
  simp
theorem cutL_drop {α : Type} {xs : List α} {k : Nat} : cutL xs (some (k : Int)) none = xs.drop k := by
  simp only [cutL, HT.sIx_none, HT.sIx_nat]
  rw [List.take_of_length_le (by simp)]
  by_cases h : k ≤ xs.length
  · rw [Nat.min_eq_left h]
  · rw [Nat.min_eq_right (by omega), List.drop_length, List.drop_eq_nil_of_le (by omega)]
theorem cutL_init {α : Type} {xs : List α} {x : α} : cutL (xs ++ [x]) none (some (-1)) = xs := by
  have h : HT.sIx (xs ++ [x]).length (xs ++ [x]).length (some (-1)) = xs.length := by
    simp only [HT.sIx]
    rw [if_pos (by omega)]; simp
    omega
  simp only [cutL, HT.sIx_none, h]
  simp
theorem cutL_tail {α : Type} {xs : List α} {x : α} : cutL (x :: xs) (some 1) none = xs := by
  have := cutL_drop (xs := x :: xs) (k := 1)
  simpa using this
theorem flats_strs : ∀ l : List Str, flats (l.map D.str) = some (l.map V.str)
  | [] => rfl
  | x :: r => by simp only [List.map_cons, flats, flat, flats_strs r]
theorem flats_ints : ∀ l : List Int, flats (l.map D.int) = some (l.map V.int)
  | [] => rfl
  | x :: r => by simp only [List.map_cons, flats, flat, flats_ints r]
theorem inV_strs (x : Str) (l : List Str) : inV (.str x) (l.map V.str) = decide (x ∈ l) := by
  induction l with
  | nil => simp [inV]
  | cons y r ih =>
    unfold inV at ih ⊢
    rw [List.map_cons, List.any_cons, ih]
    simp only [eqV]
    by_cases h : y = x
    · subst h; simp
    · have : ¬ x = y := fun e => h e.symm
      simp [h, this]
theorem inD_strs {x : Str} {l : List Str} {v : D} (h : v = .lst (l.map D.str) ∨ v = .tup (l.map D.str)) : inD (.str x) v = some (decide (x ∈ l)) := by
  rcases h with rfl | rfl <;> simp only [inD, flat, flats_strs, inV_strs]
/-! ### stores -/
/-- the well: three numbers -/
def Well (S : Store) (n : Nat) : Prop := ∃ a b c : Int, S[n]? = some (.lst [.int a, .int b, .int c])
/-- nothing changes but the well (cell n); the store may grow -/
structure WU (n : Nat) (S S' : Store) : Prop where
  well : Well S' n
  len : S.length ≤ S'.length
  oth : ∀ m, m < S.length → m ≠ n → S'[m]? = S[m]?
theorem Well.lt {S : Store} {n : Nat} (h : Well S n) : n < S.length := by
  obtain ⟨a, b, c, h⟩ := h
  exact (List.getElem?_eq_some_iff.mp h).1
theorem WU.refl {S : Store} {n : Nat} (h : Well S n) : WU n S S := ⟨h, Nat.le_refl _, fun _ _ _ => rfl⟩
theorem WU.trans {S S1 S2 : Store} {n : Nat} (a : WU n S S1) (b : WU n S1 S2) : WU n S S2 := ⟨b.well, Nat.le_trans a.len b.len, fun m h1 h2 => by rw [b.oth m (Nat.lt_of_lt_of_le h1 a.len) h2, a.oth m h1 h2]⟩
theorem WU.grow {S : Store} {n : Nat} (h : Well S n) (c : List Cell) : WU n S (S ++ c) := by
  refine ⟨?_, by simp, fun m h1 h2 => List.getElem?_append_left h1⟩
  obtain ⟨x, y, z, e⟩ := h
  exact ⟨x, y, z, by rw [List.getElem?_append_left (List.getElem?_eq_some_iff.mp e).1, e]⟩
theorem WU.set {S : Store} {n : Nat} (h : n < S.length) (a b c : Int) : WU n S (S.set n (.lst [.int a, .int b, .int c])) := by
  refine ⟨⟨a, b, c, by simp [h]⟩, by simp, fun m h1 h2 => by rw [List.getElem?_set_ne (Ne.symm h2)]⟩
theorem WU.set2 {S : Store} {n : Nat} (h : n < S.length) (a b c : Int) {S' : Store} (e : S' = S.set n (.lst [.int a, .int b, .int c])) : WU n S S' := by subst e; exact .set h a b c
end Mp
namespace Mp
open PySem L2
variable {xp : XPost}
theorem run_eq {F : Nat → Option Fd} {g n f : Nat} {d : Fd} {l : List D} {S : Store} {P : D → Store → Prop} (ev : Ev) (h : F f = some d) (hl : l.length = d.ps.length) (he : l.map Sl.va ++ List.replicate (d.N.length - l.length) Sl.no = ev) : @wpI _ xp ((sem F g (n + 1)).fn f l [] [] S) ⟨P⟩ = @wpI _ xp (evTs (sem F g n) g d.body ev S) ⟨fin P⟩ := by
  subst he; exact w_fn h hl
theorem run_fnT {F : Nat → Option Fd} {g n f : Nat} {d : Fd} {th : Store → Out D} {S : Store} {P : D → Store → Prop} (ev : Ev) (h : F f = some d) (he : Sl.th :: List.replicate (d.N.length - 1) Sl.no = ev) (k : @wpI _ xp (evTs { sem F g n with th := th } g d.body ev S) ⟨fin P⟩) : @wpI _ xp ((sem F g (n + 1)).fnT f th S) ⟨P⟩ := by
  subst he; rw [w_fnT h]; exact k
theorem run_fn {F : Nat → Option Fd} {g n f : Nat} {d : Fd} {l : List D} {S : Store} {P : D → Store → Prop} (ev : Ev) (h : F f = some d) (hl : l.length = d.ps.length) (he : l.map Sl.va ++ List.replicate (d.N.length - l.length) Sl.no = ev) (k : @wpI _ xp (evTs (sem F g n) g d.body ev S) ⟨fin P⟩) : @wpI _ xp ((sem F g (n + 1)).fn f l [] [] S) ⟨P⟩ := by
  rw [run_eq ev h hl he]; exact k
theorem idx_cel {S : Store} {n : Nat} {l : List D} {i : Int} (h : S[n]? = some (.lst l)) : idxD S (.cel n) (.int i) = atI l i := by simp only [idxD, h]
theorem lsO_cel {S : Store} {n : Nat} {l : List D} {i : Int} {j : Nat} (h : S[n]? = some (.lst l)) (hj : ixN l.length i = some j) : lsO S (.cel n) (.int i) = some (n, l, j) := by simp only [lsO, h, hj, Option.map_some]
end Mp

set_option Elab.async false
set_option linter.all false
set_option maxRecDepth 100000
set_option autoImplicit false
set_option maxHeartbeats 1000000
namespace Mp
open PySem L2
variable {xp : XPost}
section
variable {C : Cl} {g : Nat} {ev : Ev} {S : Store} {P : Fl → Store → Prop}
@[simp] theorem lstO_l {l : List D} : lstO (.lst l) = some l := rfl
theorem lenD_n {k : Nat} (h : k ≤ 1000000) : lenD (.int k) = some (.int k) := by
  have h1 : (k : Int) < 2 ^ 60 := by omega
  simp only [lenD, decide_eq_true h1, decide_eq_true (show (0 : Int) ≤ k by omega), Bool.and_self, if_true]
@[simp] theorem blD_b {neg b : Bool} : blD neg (.bl b) = some (.bl (b != neg)) := rfl
/-- an if whose test is false on all ways -/
theorem ifs_skip {C : Cl} {g : Nat} {c : E} {a : List T} {ev : Ev} {S : Store} {P : Fl → Store → Prop} (R : Store → Prop) (h : @wpI _ xp (evE C c ev S) ⟨fun x S1 => x = .bl false ∧ R S1⟩) (k : ∀ S1, R S1 → P (.nx ev) S1) : @wpI _ xp (evT C g (.ifs c a []) ev S) ⟨P⟩ := by
  rw [w_ifs]
  refine wp.imp (P := fun x S1 => x = .bl false ∧ R S1) h fun x S1 ⟨e, r⟩ => ?_
  subst e
  simp
  exact k S1 r
/-- .. where a turn gives an item or leaves it out, and nothing is changed -/
theorem wp_goLcF {gd : Gd} {f : D → Store → Out (Option D)} {P : List D → Store → Prop} (h : D → D) (p : D → Bool) (S : Store) (hg : gdB gd S = true) : ∀ l : List D, (∀ d ∈ l, wp (f d S) fun y S1 => y = (if p d then some (h d) else none) ∧ S1 = S) → P ((l.filter p).map h) S → wp (goLc gd f l S) P
  | [], _, k => by simp only [goLc, hg, if_true, wp_ok]; exact k
  | d :: r, q, k => by
    simp only [goLc, hg, if_true, wp_bind, wp_ok]
    refine (q d List.mem_cons_self).imp fun y S1 e => ?_
    obtain ⟨e1, rfl⟩ := e
    rw [wp_bind]
    subst e1
    by_cases hp : p d
    · exact (wp_goLcF (P := fun l S => P (h d :: l) S) h p S1 hg r (fun d hd => q d (List.mem_cons_of_mem _ hd)) (by simpa [hp, List.filter_cons] using k)).imp fun l S2 z => wp_ok.mpr (by simpa [hp] using z)
    · exact (wp_goLcF (P := P) h p S1 hg r (fun d hd => q d (List.mem_cons_of_mem _ hd)) (by simpa [hp, List.filter_cons] using k)).imp fun l S2 z => wp_ok.mpr (by simpa [hp] using z)
/-- append: to a list of one's own, to a shared one -/
def appK [xp : XPost] (C : Cl) (i : Nat) (e : E) (ev : Ev) (S : Store) (P : Fl → Store → Prop) : Option Sl → Prop
  | some (.ow l) => @wpI _ xp (evE C e ev S) ⟨fun x S1 => @asI (l.length < 16777216) ⟨P (.nx (ev.set i (.ow (l ++ [x])))) S1⟩⟩
  | some (.va (.cel n)) => @wpOI _ (lstC S[n]?) ⟨fun _ => @wpI _ xp (evE C e ev S) ⟨fun x S1 => @wpOI _ (lstC S1[n]?) ⟨fun l => @asI (l.length < 16777216) ⟨P (.nx ev) (S1.set n (.lst (l ++ [x])))⟩⟩⟩⟩
  | _ => False
@[simp] theorem appK_ow {i : Nat} {e : E} {l : List D} : appK C i e ev S P (some (.ow l)) = @wpI _ xp (evE C e ev S) ⟨fun x S1 => @asI (l.length < 16777216) ⟨P (.nx (ev.set i (.ow (l ++ [x])))) S1⟩⟩ := rfl
@[simp] theorem appK_cel {i n : Nat} {e : E} : appK C i e ev S P (some (.va (.cel n))) = @wpOI _ (lstC S[n]?) ⟨fun _ => @wpI _ xp (evE C e ev S) ⟨fun x S1 => @wpOI _ (lstC S1[n]?) ⟨fun l => @asI (l.length < 16777216) ⟨P (.nx ev) (S1.set n (.lst (l ++ [x])))⟩⟩⟩⟩ := rfl
@[simp] theorem w_app {i : Nat} {e : E} : @wpI _ xp (evT C g (.app i e) ev S) ⟨P⟩ = appK C i e ev S P ev[i]? := by
  cases h : ev[i]? with
  | none => rw [wpI_eq]; simp only [evT, h]; rfl
  | some s =>
    cases s with
    | no => rw [wpI_eq]; simp only [evT, h]; rfl
    | th => rw [wpI_eq]; simp only [evT, h]; rfl
    | ow l => exact w_app_ow h
    | va d =>
      cases d <;> first | (rw [wpI_eq]; simp only [evT, h]; rfl; done) | skip
      rename_i n
      simp only [appK]
      cases hn : S[n]? with
      | none => simp only [evT, h, hn, lstC, wp_bad, wpO_none]
      | some c =>
        cases c <;> first | (simp only [evT, h, hn, lstC, wp_bad, wpO_none]; done) | skip
        simp only [lstC_s, wpO_some]
        refine (w_app_cel h hn).trans ?_
        congr 2; funext x S1; congr 1
        cases S1[n]? with
        | none => rfl
        | some c => cases c <;> rfl
def clrK (i : Nat) (ev : Ev) (S : Store) (P : Fl → Store → Prop) : Option Sl → Prop
  | some (.ow _) => P (.nx (ev.set i (.ow []))) S
  | some (.va (.cel n)) => @wpOI _ (lstC S[n]?) ⟨fun _ => P (.nx ev) (S.set n (.lst []))⟩
  | _ => False
@[simp] theorem clrK_ow {i : Nat} {l : List D} : clrK i ev S P (some (.ow l)) = P (.nx (ev.set i (.ow []))) S := rfl
@[simp] theorem clrK_cel {i n : Nat} : clrK i ev S P (some (.va (.cel n))) = @wpOI _ (lstC S[n]?) ⟨fun _ => P (.nx ev) (S.set n (.lst []))⟩ := rfl
@[simp] theorem w_clr {i : Nat} : @wpI _ xp (evT C g (.clr i) ev S) ⟨P⟩ = clrK i ev S P ev[i]? := by
  cases h : ev[i]? with
  | none => rw [wpI_eq]; simp only [evT, h]; rfl
  | some s =>
    cases s with
    | no => rw [wpI_eq]; simp only [evT, h]; rfl
    | th => rw [wpI_eq]; simp only [evT, h]; rfl
    | ow l => exact w_clr_ow h
    | va d =>
      cases d <;> first | (rw [wpI_eq]; simp only [evT, h]; rfl; done) | skip
      rename_i n
      simp only [clrK]
      cases hn : S[n]? with
      | none => simp only [evT, h, hn, lstC, wp_bad, wpO_none]
      | some c =>
        cases c <;> first | (simp only [evT, h, hn, lstC, wp_bad, wpO_none]; done) | skip
        rw [lstC_s, wpO_some]; exact w_clr_cel h hn
end
theorem map_toNat_inj : ∀ {a b : List Char}, a.map Char.toNat = b.map Char.toNat → a = b
  | [], [], _ => rfl
  | [], _ :: _, h => by simp at h
  | _ :: _, [], h => by simp at h
  | x :: a, y :: b, h => by
    simp only [List.map_cons, List.cons.injEq] at h
    rw [map_toNat_inj h.2, Char.toNat_inj.mp h.1]
@[simp] theorem ofS_inj {a b : String} : (Str.ofString a = Str.ofString b) = (a = b) := by
  refine propext ⟨fun h => ?_, fun h => by rw [h]⟩
  rw [Str.ofString_eq_toList, Str.ofString_eq_toList] at h
  have h2 : a.toList.map Char.toNat = b.toList.map Char.toNat := by
    have h1 := congrArg Str.cps h
    exact Array.toList_inj.mpr h1
  exact String.toList_inj.mp (map_toNat_inj h2)
/-! ### rows of programs -/
inductive Row where
  | set (x : Str) (f : List Int) (k : Int) | ask (x : Str) (k : Int) | say (f : List Int) (k : Int) | look (k : Int) | choose (l : List Int) | stop
  deriving DecidableEq, Repr
def tI (f : List Int) : D := .tup (f.map D.int)
def Row.d : Row → D
  | .set x f k => .tup [.str "set", .str x, tI f, .int k]
  | .ask x k => .tup [.str "ask", .str x, .int k]
  | .say f k => .tup [.str "say", tI f, .int k]
  | .look k => .tup [.str "look", .int k]
  | .choose l => .tup [.str "choose", tI l]
  | .stop => .tup [.str "stop"]
/-- a row of a program of these names and so many rows -/
def Row.ok (names : List Str) (m : Int) : Row → Prop
  | .set x f k => x ∈ names ∧ f.length = names.length + 1 ∧ 0 ≤ k ∧ k < m
  | .ask x k => x ∈ names ∧ 0 ≤ k ∧ k < m
  | .say f k => f.length = names.length + 1 ∧ 0 ≤ k ∧ k < m
  | .look k => 0 ≤ k ∧ k < m
  | .choose l => 1 ≤ l.length ∧ l.length ≤ 6 ∧ ∀ k ∈ l, 0 ≤ k ∧ k < m
  | .stop => True
def redL (M : Int) (f : List Int) : List Int := f.map (· % M)
def Row.red (M : Int) : Row → Row
  | .set x f k => .set x (redL M f) k
  | .say f k => .say (redL M f) k
  | r => r
/-- all numbers are reduced -/
def Row.isRed (M : Int) : Row → Prop
  | .set _ f _ => ∀ v ∈ f, 0 ≤ v ∧ v < M
  | .say f _ => ∀ v ∈ f, 0 ≤ v ∧ v < M
  | _ => True
theorem redL_id {M : Int} {f : List Int} (h : ∀ v ∈ f, 0 ≤ v ∧ v < M) : redL M f = f := by
  unfold redL
  conv => rhs; rw [← List.map_id f]
  exact List.map_congr_left fun v hv => Int.emod_eq_of_lt (h v hv).1 (h v hv).2
theorem Row.red_id {M : Int} {r : Row} (h : r.isRed M) : r.red M = r := by
  cases r <;> simp only [Row.red] <;> first | rfl | (rw [redL_id h])
theorem Row.ok_red {M m : Int} {names : List Str} {r : Row} : (r.red M).ok names m ↔ r.ok names m := by
  cases r <;> simp [Row.red, Row.ok, redL]
theorem ints_inj {f f' : List Int} (h : f.map D.int = f'.map D.int) : f = f' := by
  induction f generalizing f' with
  | nil => cases f' <;> simp at h; rfl
  | cons a r ih =>
    cases f' with
    | nil => simp at h
    | cons b q => simp at h; rw [h.1, ih h.2]
theorem Row.d_inj {r r' : Row} (h : r.d = r'.d) : r = r' := by
  cases r <;> cases r' <;> simp [Row.d, tI] at h <;> first | rfl | skip
  · obtain ⟨h1, h2, h3⟩ := h; rw [h1, ints_inj h2, h3]
  · rw [h.1, h.2]
  · rw [ints_inj h.1, h.2]
  · rw [h]
  · rw [ints_inj h]
theorem rowsd_inj {l l' : List Row} (h : l.map Row.d = l'.map Row.d) : l = l' := by
  induction l generalizing l' with
  | nil => cases l' <;> simp at h; rfl
  | cons a r ih =>
    cases l' with
    | nil => simp at h
    | cons b q => simp at h; rw [Row.d_inj h.1, ih h.2]
theorem strs_inj {f f' : List Str} (h : f.map D.str = f'.map D.str) : f = f' := by
  induction f generalizing f' with
  | nil => cases f' <;> simp at h; rfl
  | cons a r ih =>
    cases f' with
    | nil => simp at h
    | cons b q => simp at h; rw [h.1, ih h.2]
theorem cle_tI {n : Nat} (f : List Int) : cle (n + 1) (tI f) = true := by simp only [tI, cle]; exact cles_ints f
def strsOk (names : List Str) : Prop := ∀ x ∈ names, PyData.strOk x = true
theorem cles_strs {n : Nat} {l : List Str} (h : strsOk l) : cles n (l.map D.str) = true := cles_all fun d hd => by
  obtain ⟨i, hi, rfl⟩ := List.mem_map.mp hd
  cases n <;> simpa [cle] using h i hi
theorem cle_row {names : List Str} {m : Int} {r : Row} (hs : strsOk names) (h : r.ok names m) : cle 2 r.d = true := by
  cases r <;> simp only [Row.d, cle, cles, Bool.and_eq_true, Bool.and_true, true_and, and_true] <;> simp only [Row.ok] at h
  · exact ⟨by decide +kernel, hs _ h.1, cle_tI _⟩
  · exact ⟨by decide +kernel, hs _ h.1⟩
  · exact ⟨by decide +kernel, cle_tI _⟩
  · decide +kernel
  · exact ⟨by decide +kernel, cle_tI _⟩
  · decide +kernel
theorem cles_rows {names : List Str} {m : Int} {l : List Row} (hs : strsOk names) (h : ∀ r ∈ l, r.ok names m) : cles 2 (l.map Row.d) = true := cles_all fun d hd => by
  obtain ⟨r, hr, rfl⟩ := List.mem_map.mp hd
  exact cle_row hs (h r hr)
theorem cles_rows2 {names : List Str} {m : Int} {l : List Row} (hs : strsOk names) (h : ∀ r ∈ l, r.ok names m) : cles 2 (l.map Row.d) = true := cles_rows hs h
theorem atI_ints {l : List Int} {i : Int} (h0 : 0 ≤ i) (h1 : i < l.length) : ∃ v, atI (l.map D.int) i = some (.int v) ∧ v ∈ l := by
  obtain ⟨x, e, hx⟩ := atI_mem (xs := l.map D.int) h0 (by simpa using h1)
  obtain ⟨v, hv, rfl⟩ := List.mem_map.mp hx
  exact ⟨v, e, hv⟩
theorem mulB_ite {i : Int} {b : Bool} : mulB i (if b then 1 else 0) = true := mulB_r (by cases b <;> simp)
@[simp] theorem mulB_itp {i : Int} {p : Prop} [Decidable p] : mulB i (if p then 1 else 0) = true := mulB_r (by by_cases h : p <;> simp [h])
theorem rng_nat {m : Nat} (h : m < 1000000000) : rngD [.int (m : Int)] = some ((List.range m).map fun k : Nat => D.int (k : Int)) := by
  have h1 : -(2 ^ 62) ≤ (m : Int) := by omega
  have h2 : (m : Int) < 2 ^ 62 := by omega
  simp only [rngD, decide_eq_true h1, decide_eq_true h2, Bool.and_self, if_true, Int.toNat_natCast]
theorem rng_get {m k : Nat} {d : D} (h : ((List.range m).map fun k : Nat => D.int (k : Int))[k]? = some d) : k < m ∧ d = .int k := by
  have h1 : k < m := by simpa using (List.getElem?_eq_some_iff.mp h).1
  refine ⟨h1, ?_⟩
  rw [List.getElem?_map, List.getElem?_range h1] at h
  exact (Option.some.inj h).symm
theorem repL_one {x : Int} {m : Nat} : repL [D.int x] m = (List.replicate m x).map D.int := by
  unfold repL
  induction m with
  | zero => rfl
  | succ m ih => rw [List.replicate_succ, List.flatten_cons, ih, List.replicate_succ]; rfl
theorem bin_rep {x : Int} {m : Nat} (h : m ≤ 1000) : binD .Mult (.tup [D.int x]) (.int m) = some (.tup ((List.replicate m x).map D.int)) := by
  have h1 : (m : Int).natAbs < 2 ^ 60 := by omega
  have h2 : lineB ([D.int x].length * m) = true := lineB_small (by simp; omega)
  simp only [binD, Int.toNat_natCast, h2, decide_eq_true h1, Bool.and_self, if_true, repL_one]
theorem ints_of {p : Int → Prop} : ∀ {l : List D}, (∀ z ∈ l, ∃ i : Int, z = .int i ∧ p i) → ∃ l' : List Int, l = l'.map D.int ∧ ∀ i ∈ l', p i
  | [], _ => ⟨[], rfl, by simp⟩
  | z :: l, h => by
    obtain ⟨i, rfl, hi⟩ := h z List.mem_cons_self
    obtain ⟨l', rfl, hl⟩ := ints_of (l := l) fun z hz => h z (List.mem_cons_of_mem _ hz)
    exact ⟨i :: l', rfl, by simpa using ⟨hi, hl⟩⟩
theorem rows_of {p : Row → Prop} : ∀ {l : List D}, (∀ z ∈ l, ∃ r : Row, z = r.d ∧ p r) → ∃ l' : List Row, l = l'.map Row.d ∧ ∀ i ∈ l', p i
  | [], _ => ⟨[], rfl, by simp⟩
  | z :: l, h => by
    obtain ⟨i, rfl, hi⟩ := h z List.mem_cons_self
    obtain ⟨l', rfl, hl⟩ := rows_of (l := l) fun z hz => h z (List.mem_cons_of_mem _ hz)
    exact ⟨i :: l', rfl, by simpa using ⟨hi, hl⟩⟩
inductive All2 {α β : Type} (R : α → β → Prop) : List α → List β → Prop
  | nil : All2 R [] []
  | cons {a : α} {b : β} {l : List α} {m : List β} (h : R a b) (t : All2 R l m) : All2 R (a :: l) (b :: m)
theorem All2.len {α β : Type} {R : α → β → Prop} {l : List α} {m : List β} (h : All2 R l m) : l.length = m.length := by
  induction h with
  | nil => rfl
  | cons _ _ ih => simp [ih]
theorem All2.mem {α β : Type} {R : α → β → Prop} {l : List α} {m : List β} (h : All2 R l m) : ∀ b ∈ m, ∃ a ∈ l, R a b := by
  induction h with
  | nil => simp
  | cons h1 _ ih =>
    intro b hb
    rcases List.mem_cons.mp hb with rfl | hb
    · exact ⟨_, List.mem_cons_self, h1⟩
    · obtain ⟨a, ha, hr⟩ := ih b hb
      exact ⟨a, List.mem_cons_of_mem _ ha, hr⟩
theorem All2.map {α β γ : Type} {R : α → β → Prop} {f : α → γ} {k : β → γ} {l : List α} {m : List β} (h : All2 R l m) (e : ∀ a b, R a b → k b = f a) : m.map k = l.map f := by
  induction h with
  | nil => rfl
  | cons h1 _ ih => rw [List.map_cons, List.map_cons, ih, e _ _ h1]
theorem rows_rel {R : Row → Row → Prop} : ∀ {rs : List Row} {l : List D}, l.length = rs.length → (∀ (i : Nat) (r : Row) (z : D), rs[i]? = some r → l[i]? = some z → ∃ r' : Row, z = r'.d ∧ R r r') → ∃ rs' : List Row, l = rs'.map Row.d ∧ All2 R rs rs'
  | [], [], _, _ => ⟨[], rfl, .nil⟩
  | [], _ :: _, h, _ => by simp at h
  | _ :: _, [], h, _ => by simp at h
  | i :: l, z :: r, h, k => by
    obtain ⟨a, rfl, ha⟩ := k 0 i z rfl rfl
    obtain ⟨f, rfl, hf⟩ := rows_rel (rs := l) (l := r) (by simpa using h) fun j i z h1 h2 => k (j + 1) i z (by simpa using h1) (by simpa using h2)
    exact ⟨a :: f, rfl, .cons ha hf⟩
theorem grow_of {M : Int} : ∀ {l : List Int} {r : List D}, r.length = l.length → (∀ (j : Nat) (i : Int) (z : D), l[j]? = some i → r[j]? = some z → ∃ k : Int, z = .int k ∧ k % M = i % M) → ∃ f : List Int, r = f.map D.int ∧ redL M f = redL M l
  | [], [], _, _ => ⟨[], rfl, rfl⟩
  | [], _ :: _, h, _ => by simp at h
  | _ :: _, [], h, _ => by simp at h
  | i :: l, z :: r, h, k => by
    obtain ⟨a, rfl, ha⟩ := k 0 i z rfl rfl
    obtain ⟨f, rfl, hf⟩ := grow_of (l := l) (r := r) (by simpa using h) fun j i z h1 h2 => k (j + 1) i z (by simpa using h1) (by simpa using h2)
    exact ⟨a :: f, rfl, by unfold redL at hf ⊢; rw [List.map_cons, List.map_cons, hf, ha]⟩
theorem mulB_1000 {i j : Int} (h1 : i.natAbs < 2 ^ 1000) (h2 : j.natAbs < 2 ^ 1000) : mulB i j = true := by
  unfold mulB
  rw [decide_eq_true h1, decide_eq_true h2]
  simp
theorem pow2_pos {w : Nat} : (0 : Int) < 2 ^ w := Int.pow_pos (by decide)
theorem pow2_cast {w : Nat} : (2 : Int) ^ w = ((2 ^ w : Nat) : Int) := by rw [Int.natCast_pow]; rfl
theorem pow2_le {w : Nat} (h : w ≤ 64) : (2 : Int) ^ w ≤ 18446744073709551616 := by
  have h1 : (2 : Nat) ^ w ≤ 2 ^ 64 := Nat.pow_le_pow_right (by decide) h
  rw [pow2_cast]
  exact Int.ofNat_le.mpr h1
theorem divB_pow2 {w : Nat} (h : w ≤ 64) : divB (2 ^ w) = true := by
  rw [divB_def, decide_eq_true pow2_pos]
  have h2 : (2 : Int) ^ w < 2 ^ 8000 := by
    have h1 : (2 : Nat) ^ w < 2 ^ 8000 := Nat.pow_lt_pow_right (by decide) (by omega)
    rw [pow2_cast, pow2_cast]
    exact Int.ofNat_lt.mpr h1
  rw [decide_eq_true h2]; rfl
theorem eqD_strs {x y : Str} (hx : PyData.strOk x = true) (hy : PyData.strOk y = true) : eqD (.str x) (.str y) = some (decide (x = y)) := by
  rw [eqD_cle (n := 0) (m := 0) (by simpa [cle] using hx) (by simpa [cle] using hy) (by omega) (by omega)]
  simp only [sameD]
end Mp
namespace Mp
open PySem L2
variable {xp : XPost}
/-! the kinds of rows -/
@[simp] theorem ok_set : PyData.strOk "set" = true := by decide +kernel
@[simp] theorem eq_set_set : eqD (.str "set") (.str "set") = some true := by decide +kernel
@[simp] theorem eq_set_ask : eqD (.str "set") (.str "ask") = some false := by decide +kernel
@[simp] theorem eq_set_say : eqD (.str "set") (.str "say") = some false := by decide +kernel
@[simp] theorem eq_set_look : eqD (.str "set") (.str "look") = some false := by decide +kernel
@[simp] theorem eq_set_choose : eqD (.str "set") (.str "choose") = some false := by decide +kernel
@[simp] theorem eq_set_stop : eqD (.str "set") (.str "stop") = some false := by decide +kernel
@[simp] theorem ok_ask : PyData.strOk "ask" = true := by decide +kernel
@[simp] theorem eq_ask_set : eqD (.str "ask") (.str "set") = some false := by decide +kernel
@[simp] theorem eq_ask_ask : eqD (.str "ask") (.str "ask") = some true := by decide +kernel
@[simp] theorem eq_ask_say : eqD (.str "ask") (.str "say") = some false := by decide +kernel
@[simp] theorem eq_ask_look : eqD (.str "ask") (.str "look") = some false := by decide +kernel
@[simp] theorem eq_ask_choose : eqD (.str "ask") (.str "choose") = some false := by decide +kernel
@[simp] theorem eq_ask_stop : eqD (.str "ask") (.str "stop") = some false := by decide +kernel
@[simp] theorem ok_say : PyData.strOk "say" = true := by decide +kernel
@[simp] theorem eq_say_set : eqD (.str "say") (.str "set") = some false := by decide +kernel
@[simp] theorem eq_say_ask : eqD (.str "say") (.str "ask") = some false := by decide +kernel
@[simp] theorem eq_say_say : eqD (.str "say") (.str "say") = some true := by decide +kernel
@[simp] theorem eq_say_look : eqD (.str "say") (.str "look") = some false := by decide +kernel
@[simp] theorem eq_say_choose : eqD (.str "say") (.str "choose") = some false := by decide +kernel
@[simp] theorem eq_say_stop : eqD (.str "say") (.str "stop") = some false := by decide +kernel
@[simp] theorem ok_look : PyData.strOk "look" = true := by decide +kernel
@[simp] theorem eq_look_set : eqD (.str "look") (.str "set") = some false := by decide +kernel
@[simp] theorem eq_look_ask : eqD (.str "look") (.str "ask") = some false := by decide +kernel
@[simp] theorem eq_look_say : eqD (.str "look") (.str "say") = some false := by decide +kernel
@[simp] theorem eq_look_look : eqD (.str "look") (.str "look") = some true := by decide +kernel
@[simp] theorem eq_look_choose : eqD (.str "look") (.str "choose") = some false := by decide +kernel
@[simp] theorem eq_look_stop : eqD (.str "look") (.str "stop") = some false := by decide +kernel
@[simp] theorem ok_choose : PyData.strOk "choose" = true := by decide +kernel
@[simp] theorem eq_choose_set : eqD (.str "choose") (.str "set") = some false := by decide +kernel
@[simp] theorem eq_choose_ask : eqD (.str "choose") (.str "ask") = some false := by decide +kernel
@[simp] theorem eq_choose_say : eqD (.str "choose") (.str "say") = some false := by decide +kernel
@[simp] theorem eq_choose_look : eqD (.str "choose") (.str "look") = some false := by decide +kernel
@[simp] theorem eq_choose_choose : eqD (.str "choose") (.str "choose") = some true := by decide +kernel
@[simp] theorem eq_choose_stop : eqD (.str "choose") (.str "stop") = some false := by decide +kernel
@[simp] theorem ok_stop : PyData.strOk "stop" = true := by decide +kernel
@[simp] theorem eq_stop_set : eqD (.str "stop") (.str "set") = some false := by decide +kernel
@[simp] theorem eq_stop_ask : eqD (.str "stop") (.str "ask") = some false := by decide +kernel
@[simp] theorem eq_stop_say : eqD (.str "stop") (.str "say") = some false := by decide +kernel
@[simp] theorem eq_stop_look : eqD (.str "stop") (.str "look") = some false := by decide +kernel
@[simp] theorem eq_stop_choose : eqD (.str "stop") (.str "choose") = some false := by decide +kernel
@[simp] theorem eq_stop_stop : eqD (.str "stop") (.str "stop") = some true := by decide +kernel
end Mp
namespace Mp
open PySem L2
variable {xp : XPost}
@[simp] theorem ok_go : PyData.strOk "go" = true := by decide +kernel
@[simp] theorem eq_set_go : eqD (.str "set") (.str "go") = some false := by decide +kernel
@[simp] theorem eq_ask_go : eqD (.str "ask") (.str "go") = some false := by decide +kernel
@[simp] theorem eq_say_go : eqD (.str "say") (.str "go") = some false := by decide +kernel
@[simp] theorem eq_look_go : eqD (.str "look") (.str "go") = some false := by decide +kernel
@[simp] theorem eq_choose_go : eqD (.str "choose") (.str "go") = some false := by decide +kernel
@[simp] theorem eq_stop_go : eqD (.str "stop") (.str "go") = some false := by decide +kernel
@[simp] theorem eq_go_set : eqD (.str "go") (.str "set") = some false := by decide +kernel
@[simp] theorem eq_go_ask : eqD (.str "go") (.str "ask") = some false := by decide +kernel
@[simp] theorem eq_go_say : eqD (.str "go") (.str "say") = some false := by decide +kernel
@[simp] theorem eq_go_look : eqD (.str "go") (.str "look") = some false := by decide +kernel
@[simp] theorem eq_go_choose : eqD (.str "go") (.str "choose") = some false := by decide +kernel
@[simp] theorem eq_go_stop : eqD (.str "go") (.str "stop") = some false := by decide +kernel
@[simp] theorem eq_go_go : eqD (.str "go") (.str "go") = some true := by decide +kernel
theorem AsSeq.idx {S : Store} {v : D} {l : List D} {i : Int} (h : AsSeq S v l) : idxD S v (.int i) = atI l i := by
  cases h with
  | lst => rfl
  | tup => rfl
  | cel h => exact idx_cel h
@[simp] theorem eq_nil_nil : eqD (.tup []) (.tup []) = some true := by decide +kernel
theorem map_const {α : Type} {l : List α} {b : D} : l.map (fun _ => b) = List.replicate l.length b := by
  induction l with
  | nil => rfl
  | cons x r ih => rw [List.map_cons, ih]; rfl
theorem tI_inj {a b : List Int} (h : tI a = tI b) : a = b := by
  simp only [tI, D.tup.injEq] at h; exact ints_inj h
/-- a comprehension that draws: each turn gives something of a kind -/
theorem wp_drawn {α : Type} {enc : α → D} {f : D → Store → Out (Option D)} {Q : List D → Store → Prop} {c : Nat} {S0 : Store} (good : α → Prop) {L : List D} {S : Store} (hw : WU c S0 S)
    (turn : ∀ d ∈ L, ∀ S', WU c S0 S' → wp (f d S') fun y S1 => (∃ z, y = some z ∧ ∃ a, z = enc a ∧ good a) ∧ WU c S0 S1) (k : ∀ (l : List α) (S1 : Store), l.length = L.length → (∀ a ∈ l, good a) → WU c S0 S1 → Q (l.map enc) S1) : wp (goLc none f L S) Q := by
  refine wp_goLcR (fun _ z => ∃ a, z = enc a ∧ good a) (fun S' => WU c S0 S') (fun _ _ => rfl) _ _ hw turn fun r S1 u hl hr => ?_
  have go : ∀ r : List D, (∀ z ∈ r, ∃ a, z = enc a ∧ good a) → ∃ l : List α, r = l.map enc ∧ ∀ a ∈ l, good a := by
    intro r
    induction r with
    | nil => exact fun _ => ⟨[], rfl, by simp⟩
    | cons z r ih =>
      intro h
      obtain ⟨a, rfl, ha⟩ := h z List.mem_cons_self
      obtain ⟨l, rfl, hl⟩ := ih fun z hz => h z (List.mem_cons_of_mem _ hz)
      exact ⟨a :: l, rfl, by simpa using ⟨ha, hl⟩⟩
  obtain ⟨l, rfl, hg⟩ := go r fun z hz => by
    obtain ⟨j, hj, rfl⟩ := List.mem_iff_getElem.mp hz
    exact hr j _ _ (List.getElem?_eq_getElem (by omega)) (List.getElem?_eq_getElem hj)
  exact k l S1 (by simpa using hl) hg u
@[simp] theorem atIm1 {α : Type} {a : α} : atI [a] (-1) = some a := by simp [atI, ixN]
@[simp] theorem atIm2 {α : Type} {a b : α} : atI [a, b] (-1) = some b := by simp [atI, ixN]
@[simp] theorem atIm3 {α : Type} {a b c : α} : atI [a, b, c] (-1) = some c := by simp [atI, ixN]
@[simp] theorem atIm4 {α : Type} {a b c d : α} : atI [a, b, c, d] (-1) = some d := by simp [atI, ixN]
theorem All2.snoc {α β : Type} {R : α → β → Prop} {l : List α} {m : List β} {a : α} {b : β} (h : All2 R l m) (r : R a b) : All2 R (l ++ [a]) (m ++ [b]) := by
  induction h with
  | nil => exact .cons r .nil
  | cons h1 _ ih => exact .cons h1 ih
theorem All2.get {α β : Type} {R : α → β → Prop} {l : List α} {m : List β} (h : All2 R l m) : ∀ {i : Nat} {b : β}, m[i]? = some b → ∃ a, l[i]? = some a ∧ R a b := by
  induction h with
  | nil => intro i b e; simp at e
  | cons h1 _ ih =>
    intro i b e
    cases i with
    | zero => simp at e; subst e; exact ⟨_, rfl, h1⟩
    | succ i => simpa using ih (by simpa using e)
theorem enc_rel {α β : Type} {e2 : β → D} {R : α → β → Prop} : ∀ {as : List α} {l : List D}, l.length = as.length → (∀ (i : Nat) (a : α) (z : D), as[i]? = some a → l[i]? = some z → ∃ b : β, z = e2 b ∧ R a b) → ∃ bs : List β, l = bs.map e2 ∧ All2 R as bs
  | [], [], _, _ => ⟨[], rfl, .nil⟩
  | [], _ :: _, h, _ => by simp at h
  | _ :: _, [], h, _ => by simp at h
  | i :: l, z :: r, h, k => by
    obtain ⟨a, rfl, ha⟩ := k 0 i z rfl rfl
    obtain ⟨f, rfl, hf⟩ := enc_rel (as := l) (l := r) (by simpa using h) fun j i z h1 h2 => k (j + 1) i z (by simpa using h1) (by simpa using h2)
    exact ⟨a :: f, rfl, .cons ha hf⟩
theorem map_enc_inj {α : Type} {e : α → D} (h : ∀ a b, e a = e b → a = b) : ∀ {l m : List α}, l.map e = m.map e → l = m
  | [], [], _ => rfl
  | [], _ :: _, k => by simp at k
  | _ :: _, [], k => by simp at k
  | a :: l, b :: m, k => by
    simp only [List.map_cons, List.cons.injEq] at k
    rw [h a b k.1, map_enc_inj h k.2]
theorem Well.set {S : Store} {n m : Nat} {x : Cell} (h : Well S n) (hm : m ≠ n) : Well (S.set m x) n := by
  obtain ⟨a, b, c, e⟩ := h
  exact ⟨a, b, c, by rw [List.getElem?_set_ne hm]; exact e⟩
theorem bin_repL {x : Int} {m : Nat} (h : m ≤ 1000) : binD .Mult (.lst [D.int x]) (.int m) = some (.lst ((List.replicate m x).map D.int)) := by
  have h1 : (m : Int).natAbs < 2 ^ 60 := by omega
  have h2 : lineB ([D.int x].length * m) = true := lineB_small (by simp; omega)
  simp only [binD, Int.toNat_natCast, h2, decide_eq_true h1, Bool.and_self, if_true, repL_one]
end Mp

set_option Elab.async false
set_option linter.all false
set_option maxRecDepth 100000
set_option autoImplicit false
set_option maxHeartbeats 1000000
/-! Runs of programs, in plain words. -/
namespace Mp
open PySem L2
def dot : List Int → List Int → Int
  | a :: l, b :: m => a * b + dot l m
  | _, _ => 0
theorem dot_append : ∀ {a b c d : List Int}, a.length = c.length → dot (a ++ b) (c ++ d) = dot a c + dot b d
  | [], b, [], d, _ => by simp [dot]
  | x :: a, b, y :: c, d, h => by
    simp only [List.cons_append, dot, dot_append (a := a) (b := b) (c := c) (d := d) (by simpa using h)]
    omega
theorem dot_zip : ∀ (f st : List Int), ((f.zip st).map fun p => p.1 * p.2).sum = dot f st
  | [], _ => by simp [dot]
  | _ :: _, [] => by simp [dot]
  | a :: f, b :: st => by simp [dot, dot_zip f st]
theorem dot_zero : ∀ (n : Nat) (st : List Int), dot (List.replicate n 0) st = 0
  | 0, st => by simp [dot]
  | n + 1, [] => by simp [dot, List.replicate_succ]
  | n + 1, b :: st => by simp [dot, List.replicate_succ, dot_zero n st]
/-- the value of a form -/
def valF (M : Int) (f st : List Int) : Int := (f.headD 0 + dot f.tail st) % M
def unitT (i n : Nat) : List Int := (List.range n).map fun j => if j = i then 1 else 0
/-- the form of a variable -/
def unitF (i n : Nat) : List Int := (List.range (n + 1)).map fun j => if j = i + 1 then 1 else 0
theorem unitF_eq (i n : Nat) : unitF i n = 0 :: unitT i n := by
  unfold unitF unitT
  rw [List.range_succ_eq_map, List.map_cons, List.map_map]
  simp only [List.cons.injEq]
  refine ⟨by simp, List.map_congr_left fun j _ => ?_⟩
  simp
@[simp] theorem unitT_len (i n : Nat) : (unitT i n).length = n := by simp [unitT]
theorem dot_unit (i : Nat) : ∀ (st : List Int), dot (unitT i st.length) st = st.getD i 0 := by
  intro st
  have key : ∀ n, ∀ st : List Int, st.length = n → dot (unitT i n) st = st.getD i 0 := by
    intro n
    induction n with
    | zero => intro st h; have : st = [] := List.length_eq_zero_iff.mp h; subst this; simp [unitT, dot]
    | succ n ih =>
      intro st h
      obtain ⟨a, x, rfl⟩ : ∃ a x, st = a ++ [x] := ⟨st.dropLast, st.getLast (by intro z; subst z; simp at h), (List.dropLast_concat_getLast _).symm⟩
      have ha : a.length = n := by simpa using h
      have e : unitT i (n + 1) = unitT i n ++ [if n = i then 1 else 0] := by unfold unitT; rw [List.range_succ, List.map_append]; rfl
      rw [e, dot_append (by simp [ha]), ih a ha]
      by_cases hi : i < a.length
      · have hn : ¬ n = i := by omega
        simp [dot, hn, List.getD_eq_getElem?_getD, List.getElem?_append_left hi]
      · by_cases hn : n = i
        · subst hn
          have hz : a.getD n 0 = 0 := by rw [List.getD_eq_getElem?_getD, List.getElem?_eq_none (by omega)]; rfl
          rw [hz]
          simp [dot, List.getD_eq_getElem?_getD, ← ha]
        · have hz : a.getD i 0 = 0 := by rw [List.getD_eq_getElem?_getD, List.getElem?_eq_none (by omega)]; rfl
          have hz2 : (a ++ [x]).getD i 0 = 0 := by rw [List.getD_eq_getElem?_getD, List.getElem?_eq_none (by simp; omega)]; rfl
          rw [hz, hz2]
          simp [dot, hn]
  exact key _ st rfl
/-- a state: so many reduced numbers -/
def StOk (M : Int) (n : Nat) (st : List Int) : Prop := st.length = n ∧ ∀ v ∈ st, 0 ≤ v ∧ v < M
theorem getD_ok {M : Int} {n i : Nat} {st : List Int} (h : StOk M n st) (hi : i < n) : 0 ≤ st.getD i 0 ∧ st.getD i 0 < M := by
  rw [List.getD_eq_getElem?_getD, List.getElem?_eq_getElem (by rw [h.1]; exact hi)]
  exact h.2 _ (List.getElem_mem _)
theorem val_unit {M : Int} {n i : Nat} {st : List Int} (h : StOk M n st) (hi : i < n) : valF M (unitF i n) st = st.getD i 0 := by
  unfold valF
  rw [unitF_eq]
  have e := dot_unit i st
  rw [h.1] at e
  simp only [List.headD_cons, List.tail_cons, e, Int.zero_add]
  exact Int.emod_eq_of_lt (getD_ok h hi).1 (getD_ok h hi).2
theorem val_ext {M : Int} {f st : List Int} (x : Int) (h : f.length = st.length + 1) : valF M (f ++ [0]) (st ++ [x]) = valF M f st := by
  cases f with
  | nil => simp at h
  | cons a f =>
    unfold valF
    simp only [List.cons_append, List.headD_cons, List.tail_cons]
    rw [dot_append (by simpa using h)]
    simp [dot]
theorem val_ask {M : Int} {st : List Int} {n : Nat} (x : Int) (hM : 1 < M) (h : st.length = n) : valF M (List.replicate (n + 1) 0 ++ [1 % M]) (st ++ [x]) = x % M := by
  unfold valF
  rw [List.replicate_succ, List.cons_append]
  simp only [List.headD_cons, List.tail_cons]
  rw [dot_append (by simp [h]), dot_zero, Int.emod_eq_of_lt (by omega) hM]
  simp [dot]
theorem valF_ok {M : Int} {f st : List Int} (h : 0 < M) : 0 ≤ valF M f st ∧ valF M f st < M := ⟨Int.emod_nonneg _ (by omega), Int.emod_lt_of_pos _ h⟩
/-! ### rows -/
def nextR (num : Int) : Row → Int
  | .set _ _ k => k
  | .ask _ k => k
  | .say _ k => k
  | .look k => k
  | .choose l => l.getD num.toNat 0
  | .stop => 0
def stR (M : Int) (names : List Str) (st : List Int) (num : Int) : Row → List Int
  | .set x f _ => st.set (names.idxOf x) (valF M f st)
  | .ask x _ => st.set (names.idxOf x) (num % M)
  | _ => st
def saidR (M : Int) (st : List Int) : Row → List Int
  | .say f _ => [valF M f st]
  | .look _ => st
  | _ => []
def okPick (num : Int) : Row → Prop
  | .stop => False
  | .ask _ _ => True
  | .choose l => 0 ≤ num ∧ num < l.length
  | _ => num = 0
theorem stR_ok {M : Int} {names : List Str} {st : List Int} {num : Int} {r : Row} (h : StOk M names.length st) (hM : 0 < M) : StOk M names.length (stR M names st num r) := by
  have key : ∀ (i : Nat) (v : Int), 0 ≤ v → v < M → StOk M names.length (st.set i v) := fun i v h0 h1 => ⟨by simpa using h.1, fun w hw => by
    rcases List.mem_or_eq_of_mem_set hw with z | z
    · exact h.2 w z
    · subst z; exact ⟨h0, h1⟩⟩
  cases r <;> simp only [stR] <;> first | exact h | skip
  · exact key _ _ (valF_ok hM).1 (valF_ok hM).2
  · exact key _ _ (Int.emod_nonneg _ (by omega)) (Int.emod_lt_of_pos _ hM)
theorem nextR_ok {names : List Str} {m : Int} {num : Int} {r : Row} (hr : r.ok names m) (hp : okPick num r) : 0 ≤ nextR num r ∧ nextR num r < m := by
  cases r <;> simp only [Row.ok, okPick, nextR] at *
  · exact hr.2.2
  · exact hr.2
  · exact hr.2
  · exact hr
  · rename_i l
    rw [List.getD_eq_getElem?_getD, List.getElem?_eq_getElem (show num.toNat < l.length by omega)]
    exact hr.2.2 _ (List.getElem_mem _)
theorem saidR_ok {M : Int} {n : Nat} {st : List Int} {r : Row} (h : StOk M n st) (hM : 0 < M) : ∀ v ∈ saidR M st r, 0 ≤ v ∧ v < M := by
  cases r <;> simp only [saidR] <;> intro v hv <;> first | (simp at hv; done) | skip
  · cases List.mem_singleton.mp hv; exact valF_ok hM
  · exact h.2 v hv
def rowAt (rs : List Row) (k : Int) : Row := rs.getD k.toNat .stop
/-- where some numbers lead from a row and a state -/
def goR (M : Int) (names : List Str) (rs : List Row) : Int → List Int → List Int → Int × List Int × List Int
  | k, st, [] => (k, st, [])
  | k, st, x :: r => ((goR M names rs (nextR x (rowAt rs k)) (stR M names st x (rowAt rs k)) r).1, (goR M names rs (nextR x (rowAt rs k)) (stR M names st x (rowAt rs k)) r).2.1,
      saidR M st (rowAt rs k) ++ (goR M names rs (nextR x (rowAt rs k)) (stR M names st x (rowAt rs k)) r).2.2)
/-- they fit -/
def okR (rs : List Row) : Int → List Int → Prop
  | _, [] => True
  | k, x :: r => okPick x (rowAt rs k) ∧ okR rs (nextR x (rowAt rs k)) r
theorem goR_append {M : Int} {names : List Str} {rs : List Row} : ∀ (a b : List Int) (k : Int) (st : List Int), goR M names rs k st (a ++ b) =
    ((goR M names rs (goR M names rs k st a).1 (goR M names rs k st a).2.1 b).1, (goR M names rs (goR M names rs k st a).1 (goR M names rs k st a).2.1 b).2.1, (goR M names rs k st a).2.2 ++ (goR M names rs (goR M names rs k st a).1 (goR M names rs k st a).2.1 b).2.2)
  | [], b, k, st => by simp [goR]
  | x :: a, b, k, st => by
    simp only [List.cons_append, goR, goR_append a b, List.append_assoc]
theorem goR_row {M M' : Int} {names names' : List Str} {rs : List Row} : ∀ (a : List Int) (k : Int) (st st' : List Int), (goR M names rs k st a).1 = (goR M' names' rs k st' a).1
  | [], k, st, st' => rfl
  | x :: a, k, st, st' => by simp only [goR]; exact goR_row a _ _ _
theorem okR_append {M : Int} {names : List Str} {rs : List Row} : ∀ (a b : List Int) (k : Int) (st : List Int), okR rs k (a ++ b) ↔ okR rs k a ∧ okR rs (goR M names rs k st a).1 b
  | [], b, k, st => by simp [okR, goR]
  | x :: a, b, k, st => by
    simp only [List.cons_append, okR, goR, okR_append (M := M) (names := names) a b _ (stR M names st x (rowAt rs k)), and_assoc]
/-- a program's rows -/
structure RowsOk (M : Int) (names : List Str) (rs : List Row) : Prop where
  ok : ∀ r ∈ rs, r.ok names rs.length ∧ r.isRed M
  ne : rs ≠ []
theorem RowsOk.at {M : Int} {names : List Str} {rs : List Row} (h : RowsOk M names rs) {k : Int} (h0 : 0 ≤ k) (h1 : k < rs.length) : rs[k.toNat]? = some (rowAt rs k) ∧ (rowAt rs k).ok names rs.length ∧ (rowAt rs k).isRed M := by
  have hk : k.toNat < rs.length := by omega
  have e : rs[k.toNat]? = some (rowAt rs k) := by unfold rowAt; rw [List.getD_eq_getElem?_getD, List.getElem?_eq_getElem hk]; rfl
  exact ⟨e, h.ok _ (List.mem_of_getElem? e)⟩
theorem goR_ok {M : Int} {names : List Str} {rs : List Row} (H : RowsOk M names rs) (hM : 0 < M) : ∀ (a : List Int) (k : Int) (st : List Int), 0 ≤ k → k < rs.length → StOk M names.length st → okR rs k a →
    (0 ≤ (goR M names rs k st a).1 ∧ (goR M names rs k st a).1 < rs.length) ∧ StOk M names.length (goR M names rs k st a).2.1 ∧ (∀ v ∈ (goR M names rs k st a).2.2, 0 ≤ v ∧ v < M) ∧ (goR M names rs k st a).2.2.length ≤ a.length * (names.length + 1)
  | [], k, st, h0, h1, hs, _ => ⟨⟨h0, h1⟩, hs, by simp [goR], by simp [goR]⟩
  | x :: a, k, st, h0, h1, hs, ho => by
    obtain ⟨e, q1, q2⟩ := H.at h0 h1
    obtain ⟨n0, n1⟩ := nextR_ok q1 ho.1
    obtain ⟨i1, i2, i3, i4⟩ := goR_ok H hM a _ (stR M names st x (rowAt rs k)) n0 n1 (stR_ok hs hM) ho.2
    refine ⟨i1, i2, fun v hv => ?_, ?_⟩
    · simp only [goR] at hv
      rcases List.mem_append.mp hv with z | z
      · exact saidR_ok hs hM v z
      · exact i3 v z
    · have hl : (saidR M st (rowAt rs k)).length ≤ names.length + 1 := by
        cases rowAt rs k <;> simp [saidR]
        rw [hs.1]; omega
      simp only [goR, List.length_append, List.length_cons]
      rw [Nat.add_mul]; omega
/-! what a row of a program gives the program's own functions -/
def nextsR : Row → List Int
  | .set _ _ k => [k]
  | .ask _ k => [k]
  | .say _ k => [k]
  | .look k => [k]
  | .choose l => l
  | .stop => []
def saidF (n : Nat) : Row → List (List Int)
  | .say f _ => [f]
  | .look _ => (List.range n).map fun i => unitF i n
  | _ => []
def baseF (n : Nat) : List (List Int) := (List.range n).map fun i => unitF i n ++ [0]
def chgF (M : Int) (names : List Str) : Row → List (List Int)
  | .set x f _ => (baseF names.length).set (names.idxOf x) (f ++ [0])
  | .ask x _ => (baseF names.length).set (names.idxOf x) (List.replicate (names.length + 1) 0 ++ [1 % M])
  | _ => baseF names.length
theorem said_val {M : Int} {n : Nat} {st : List Int} {r : Row} (h : StOk M n st) : (saidF n r).map (fun f => valF M f st) = saidR M st r := by
  cases r <;> simp only [saidF, saidR, List.map_nil, List.map_cons]
  rw [List.map_map]
  refine List.ext_getElem (by simp [h.1]) fun i h1 h2 => ?_
  have hi : i < n := by simpa using h1
  simp only [List.getElem_map, Function.comp, List.getElem_range]
  rw [val_unit h hi, List.getD_eq_getElem?_getD, List.getElem?_eq_getElem h2]; rfl
theorem base_val {M : Int} {n : Nat} {st : List Int} (x : Int) (h : StOk M n st) : (baseF n).map (fun f => valF M f (st ++ [x])) = st := by
  unfold baseF
  rw [List.map_map]
  refine List.ext_getElem (by simp [h.1]) fun i h1 h2 => ?_
  have hi : i < n := by simpa using h1
  simp only [List.getElem_map, Function.comp, List.getElem_range]
  rw [val_ext x (by rw [h.1]; simp [unitF]), val_unit h hi, List.getD_eq_getElem?_getD, List.getElem?_eq_getElem h2]; rfl
theorem chg_val {M : Int} {names : List Str} {st : List Int} {x : Int} {m : Int} {r : Row} (h : StOk M names.length st) (hM : 1 < M) (hr : r.ok names m) : (chgF M names r).map (fun f => valF M f (st ++ [x])) = stR M names st x r := by
  cases r <;> simp only [chgF, stR] <;> first | exact base_val x h | skip
  · rw [List.map_set, base_val x h, val_ext x (by rw [h.1]; exact hr.2.1)]
  · rw [List.map_set, base_val x h, val_ask x hM h.1]
/-! ### turns over coded items; lists in a growing store -/
theorem wp_goLcM {xp : XPost} {α : Type} {gd : Gd} {f : D → Store → Out (Option D)} {P : List D → Store → Prop} (enc : α → D) (h : α → D) (S : Store) (hg : gdB gd S = true) : ∀ L : List α, (∀ a ∈ L, wp (f (enc a) S) fun y S1 => y = some (h a) ∧ S1 = S) → P (L.map h) S → wp (goLc gd f (L.map enc) S) P
  | [], _, k => by simp only [List.map_nil, goLc, hg, if_true, wp_ok]; exact k
  | a :: r, q, k => by
    simp only [List.map_cons, goLc, hg, if_true, wp_bind]
    refine (q a List.mem_cons_self).imp fun y S1 e => ?_
    obtain ⟨rfl, rfl⟩ := e
    rw [wp_bind]
    exact wp_goLcM (P := fun l S => wp (.ok (h a :: l) S : Out (List D)) P) enc h S1 hg r (fun a ha => q a (List.mem_cons_of_mem _ ha)) (wp_ok.mpr k)
theorem AsSeq.grow {S t : Store} {v : D} {l : List D} (h : AsSeq S v l) : AsSeq (S ++ t) v l := by
  cases h with
  | lst => exact .lst _
  | tup => exact .tup _
  | cel h => exact .cel (by rw [List.getElem?_append_left (List.getElem?_eq_some_iff.mp h).1]; exact h)
theorem AsSeq.enmG {S : Store} {v : D} {l : List D} (h : AsSeq S v l) : ∃ gd, ∀ t, enmD (S ++ t) v = some (enmL l, gd) ∧ gdB gd (S ++ t) = true := by
  cases h with
  | lst => exact ⟨none, fun _ => ⟨rfl, rfl⟩⟩
  | tup => exact ⟨none, fun _ => ⟨rfl, rfl⟩⟩
  | @cel n l h =>
    refine ⟨some (n, l), fun t => ?_⟩
    have e : (S ++ t)[n]? = some (.lst l) := by rw [List.getElem?_append_left (List.getElem?_eq_some_iff.mp h).1]; exact h
    exact ⟨by simp only [enmD, e], by simp only [gdB, e, sameDs_self]⟩
theorem AsSeq.seqG {S : Store} {v : D} {l : List D} (h : AsSeq S v l) : ∃ gd, ∀ t, seqD (S ++ t) v = some (l, gd) ∧ gdB gd (S ++ t) = true := by
  cases h with
  | lst => exact ⟨none, fun _ => ⟨rfl, rfl⟩⟩
  | tup => exact ⟨none, fun _ => ⟨rfl, rfl⟩⟩
  | @cel n l h =>
    refine ⟨some (n, l), fun t => ?_⟩
    have e : (S ++ t)[n]? = some (.lst l) := by rw [List.getElem?_append_left (List.getElem?_eq_some_iff.mp h).1]; exact h
    exact ⟨by simp only [seqD, e], by simp only [gdB, e, sameDs_self]⟩
/-! ### equality where lists are shared -/
mutual
theorem derP_cle (S : Store) : ∀ (n : Nat) (d : D), cle n d = true → derP S d = toP d
  | _, .int _, _ => rfl
  | _, .str _, _ => rfl
  | n + 1, .tup l, h => by simp only [derP, toP, derPs_cle S n l (by simpa [cle] using h)]
  | n + 1, .lst l, h => by simp only [derP, toP, derPs_cle S n l (by simpa [cle] using h)]
  | 0, .tup l, h => by simp [cle] at h
  | 0, .lst l, h => by simp [cle] at h
  | _, .non, h => by simp [cle] at h
  | _, .bl _, h => by simp [cle] at h
  | _, .ins _ _ _, h => by simp [cle] at h
  | _, .cel _, h => by simp [cle] at h
  | _, .tpf _, h => by simp [cle] at h
  | _, .dic, h => by simp [cle] at h
theorem derPs_cle (S : Store) : ∀ (n : Nat) (l : List D), cles n l = true → derP.derPs S l = toP.toPs l
  | _, [], _ => rfl
  | n, d :: r, h => by
    simp only [cles, Bool.and_eq_true] at h
    simp only [derP.derPs, toP.toPs, derP_cle S n d h.1, derPs_cle S n r h.2]
end
theorem eqDS_of {S : Store} {a b a' b' : D} (ha : derP S a = toP a') (hb : derP S b = toP b') : eqDS S a b = eqD a' b' := by
  unfold eqDS eqD
  rw [ha, hb]
theorem eqDS_cle {S : Store} {n m : Nat} {a b : D} (ha : cle n a = true) (hb : cle m b = true) : eqDS S a b = eqD a b := eqDS_of (derP_cle S n a ha) (derP_cle S m b hb)
theorem derP_cel {S : Store} {n : Nat} {l : List D} (h : S[n]? = some (.lst l)) : derP S (.cel n) = toP (.lst l) := by
  simp only [derP, h, toP]
/-- what a run tells -/
def runD (r : Int × List Int × List Int) : D := .tup [.int r.1, tI r.2.1, .lst (r.2.2.map D.int)]
theorem cle_runD (r : Int × List Int × List Int) : cle 2 (runD r) = true := by
  simp only [runD, cle, cles, cle_tI, cles_ints, Bool.and_self]
theorem derP_run {S : Store} {r : Int × List Int × List Int} {n : Nat} (h : S[n]? = some (.lst (r.2.2.map D.int))) : derP S (.tup [.int r.1, tI r.2.1, .cel n]) = toP (runD r) := by
  have e1 := derP_cle S 1 (tI r.2.1) (cle_tI _)
  have e2 := derP_cel h
  simp only [runD, derP, toP, derP.derPs, toP.toPs] at e2 ⊢
  rw [e1, e2]
theorem runD_inj {a b : Int × List Int × List Int} (h : runD a = runD b) : a = b := by
  obtain ⟨a1, a2, a3⟩ := a
  obtain ⟨b1, b2, b3⟩ := b
  simp only [runD, D.tup.injEq, List.cons.injEq, D.int.injEq, D.lst.injEq, and_true] at h
  obtain ⟨rfl, h2, h3⟩ := h
  rw [tI_inj h2, ints_inj h3]
theorem WU.set_new {S S' : Store} {c m : Nat} {x : Cell} (u : WU c S S') (hc : c < S.length) (hm : S.length ≤ m) : WU c S (S'.set m x) := by
  obtain ⟨⟨a, b, d, e⟩, h2, h3⟩ := u
  exact ⟨⟨a, b, d, by rw [List.getElem?_set_ne (by omega)]; exact e⟩, by simpa using h2, fun i h4 h5 => by rw [List.getElem?_set_ne (by omega)]; exact h3 i h4 h5⟩
theorem WU.app {S S' t : Store} {c : Nat} (u : WU c S S') : WU c S (S' ++ t) := u.trans (.grow u.well t)
end Mp

set_option Elab.async false
set_option linter.all false
set_option maxRecDepth 100000
set_option maxHeartbeats 4000000
namespace K03
open PySem L2 Mp
def top (i : Nat) : Stmt := PySem.Challenge.pw_leastkeep_k03_rows_by_their_numbers.main.body.getD i (.Pass ⟨0, 0, 0, 0⟩)
def f_is_int : Nat := 0
def f_is_number_of : Nat := 1
def f_is_name : Nat := 2
def f_are_ints : Nat := 3
def f_is_set_row : Nat := 4
def f_is_choose_row : Nat := 5
def f_is_row : Nat := 6
def f_check_program : Nat := 7
def f_reduced : Nat := 8
def f_reduced_row : Nat := 9
def f_Program___init__ : Nat := 10
def f_Program___getitem__ : Nat := 11
def f_Program_check_row : Nat := 12
def f_Program_next_rows : Nat := 13
def f_Program_said_forms : Nat := 14
def f_Program_change : Nat := 15
def f_variable_form : Nat := 16
def f_value_of : Nat := 17
def f_check_numbers : Nat := 18
def f_is_pick : Nat := 19
def f_checked_state : Nat := 20
def f_walked : Nat := 21
def f_go_on : Nat := 22
def f__law_draw : Nat := 23
def f__law_one : Nat := 24
def f__law_number : Nat := 25
def f__law_form : Nat := 26
def f__law_row : Nat := 27
def f__law_rows : Nat := 28
def f__law_raised : Nat := 29
def f__law_right : Nat := 30
def f_law : Nat := 31
/-- is_int -/
def a_is_int : Fd := ⟨"is_int", ["value"], ["value"],
  [.ret (.andE (.isI (.var 0) [.int]) [(.nt (.isI (.var 0) [.bool]))])], false, false⟩
/-- is_number_of -/
def a_is_number_of : Fd := ⟨"is_number_of", ["value", "many"], ["value", "many"],
  [.ret (.andE (.call f_is_int [(.var 0)] [] []) [(.cmp2 .LtE .Lt (.con (.int 0)) (.var 0) (.var 1))])], false, false⟩
/-- is_name -/
def a_is_name : Fd := ⟨"is_name", ["value"], ["value", "sign"],
  [.ret (.andE (.isI (.var 0) [.str]) [(.cmp2 .LtE .LtE (.con (.int 1)) (.bcl .len [(.var 0)]) (.glo "MAX_NAME" (.int 8))), (.bcl .all [(.lc (.cmp .In (.var 1) (.glo "LETTERS" (.str "abcdefghijklmnopqrstuvwxyz"))) (.nm 1) (.seq (.var 0)) [] [1])])])], false, false⟩
/-- are_ints -/
def a_are_ints : Fd := ⟨"are_ints", ["value", "many"], ["value", "many", "one"],
  [.ret (.andE (.isI (.var 0) [.tuple]) [(.cmp .Eq (.bcl .len [(.var 0)]) (.var 1)), (.bcl .all [(.lc (.call f_is_int [(.var 2)] [] []) (.nm 2) (.seq (.var 0)) [] [2])])])], false, false⟩
/-- is_set_row -/
def a_is_set_row : Fd := ⟨"is_set_row", ["row", "names", "many"], ["row", "names", "many"],
  [.ret (.andE (.cmp .Eq (.bcl .len [(.var 0)]) (.con (.int 4))) [(.cmp .In (.idx (.var 0) (.con (.int 1))) (.var 1)), (.call f_are_ints [(.idx (.var 0) (.con (.int 2))), (.bin .Add (.bcl .len [(.var 1)]) (.con (.int 1)))] [] []), (.call f_is_number_of [(.idx (.var 0) (.con (.int 3))), (.var 2)] [] [])])], false, false⟩
/-- is_choose_row -/
def a_is_choose_row : Fd := ⟨"is_choose_row", ["row", "many"], ["row", "many", "one"],
  [.ifs (.orE (.cmp .NotEq (.bcl .len [(.var 0)]) (.con (.int 2))) [(.nt (.isI (.idx (.var 0) (.con (.int 1))) [.tuple])), (.nt (.cmp2 .LtE .LtE (.con (.int 1)) (.bcl .len [(.idx (.var 0) (.con (.int 1)))]) (.glo "MAX_WAYS" (.int 6))))]) [.ret (.con (.bool false))] [],
   .ret (.bcl .all [(.lc (.call f_is_number_of [(.var 2), (.var 1)] [] []) (.nm 2) (.seq (.idx (.var 0) (.con (.int 1)))) [] [2])])], false, false⟩
/-- is_row -/
def a_is_row : Fd := ⟨"is_row", ["row", "names", "many"], ["row", "names", "many"],
  [.ifs (.orE (.nt (.isI (.var 0) [.tuple])) [(.cmp .Eq (.bcl .len [(.var 0)]) (.con (.int 0))), (.nt (.isI (.idx (.var 0) (.con (.int 0))) [.str]))]) [.ret (.con (.bool false))] [],
   .ifs (.cmp .Eq (.idx (.var 0) (.con (.int 0))) (.con (.str "set"))) [.ret (.call f_is_set_row [(.var 0), (.var 1), (.var 2)] [] [])] [],
   .ifs (.cmp .Eq (.idx (.var 0) (.con (.int 0))) (.con (.str "ask"))) [.ret (.andE (.cmp .Eq (.bcl .len [(.var 0)]) (.con (.int 3))) [(.cmp .In (.idx (.var 0) (.con (.int 1))) (.var 1)), (.call f_is_number_of [(.idx (.var 0) (.con (.int 2))), (.var 2)] [] [])])] [],
   .ifs (.cmp .Eq (.idx (.var 0) (.con (.int 0))) (.con (.str "say"))) [.ret (.andE (.cmp .Eq (.bcl .len [(.var 0)]) (.con (.int 3))) [(.call f_are_ints [(.idx (.var 0) (.con (.int 1))), (.bin .Add (.bcl .len [(.var 1)]) (.con (.int 1)))] [] []), (.call f_is_number_of [(.idx (.var 0) (.con (.int 2))), (.var 2)] [] [])])] [],
   .ifs (.cmp .Eq (.idx (.var 0) (.con (.int 0))) (.con (.str "look"))) [.ret (.andE (.cmp .Eq (.bcl .len [(.var 0)]) (.con (.int 2))) [(.call f_is_number_of [(.idx (.var 0) (.con (.int 1))), (.var 2)] [] [])])] [],
   .ifs (.cmp .Eq (.idx (.var 0) (.con (.int 0))) (.con (.str "choose"))) [.ret (.call f_is_choose_row [(.var 0), (.var 2)] [] [])] [],
   .ret (.cmp .Eq (.var 0) (.tupE [(.con (.str "stop"))]))], false, false⟩
/-- check_program -/
def a_check_program : Fd := ⟨"check_program", ["width", "variables", "rows"], ["width", "variables", "rows", "index", "name", "row"],
  [.ifs (.orE (.nt (.call f_is_int [(.var 0)] [] [])) [(.nt (.cmp2 .LtE .LtE (.con (.int 1)) (.var 0) (.glo "MAX_WIDTH" (.int 64))))]) [.nev] [],
   .ifs (.orE (.nt (.isI (.var 1) [.list, .tuple])) [(.nt (.cmp2 .LtE .LtE (.con (.int 1)) (.bcl .len [(.var 1)]) (.glo "MAX_VARIABLES" (.int 6))))]) [.nev] [],
   .fr (.tp [(.nm 3), (.nm 4)]) (.enm (.var 1)) [.ifs (.orE (.nt (.call f_is_name [(.var 4)] [] [])) [(.cmp .In (.var 4) (.slc (.var 1) none (some (.var 3))))]) [.nev] []],
   .ifs (.orE (.nt (.isI (.var 2) [.list, .tuple])) [(.nt (.cmp2 .LtE .LtE (.con (.int 1)) (.bcl .len [(.var 2)]) (.glo "MAX_ROWS" (.int 25))))]) [.nev] [],
   .fr (.tp [(.nm 3), (.nm 5)]) (.enm (.var 2)) [.ifs (.nt (.call f_is_row [(.var 5), (.bcl .tuple [(.var 1)]), (.bcl .len [(.var 2)])] [] [])) [.nev] []]], false, false⟩
/-- reduced -/
def a_reduced : Fd := ⟨"reduced", ["form", "modulus"], ["form", "modulus", "number"],
  [.ret (.bcl .tuple [(.lc (.bin .Mod (.var 2) (.var 1)) (.nm 2) (.seq (.var 0)) [] [2])])], false, false⟩
/-- reduced_row -/
def a_reduced_row : Fd := ⟨"reduced_row", ["row", "modulus"], ["row", "modulus"],
  [.ifs (.cmp .Eq (.idx (.var 0) (.con (.int 0))) (.con (.str "set"))) [.ret (.tupE [(.idx (.var 0) (.con (.int 0))), (.idx (.var 0) (.con (.int 1))), (.call f_reduced [(.idx (.var 0) (.con (.int 2))), (.var 1)] [] []), (.idx (.var 0) (.con (.int 3)))])] [],
   .ifs (.cmp .Eq (.idx (.var 0) (.con (.int 0))) (.con (.str "say"))) [.ret (.tupE [(.idx (.var 0) (.con (.int 0))), (.call f_reduced [(.idx (.var 0) (.con (.int 1))), (.var 1)] [] []), (.idx (.var 0) (.con (.int 2)))])] [],
   .ret (.var 0)], false, false⟩
/-- Program.__init__ -/
def a_Program___init__ : Fd := ⟨"__init__", ["self", "width", "variables", "rows"], ["self", "width", "variables", "rows", "row"],
  [.ex (.call f_check_program [(.var 1), (.var 2), (.var 3)] [] []),
   .asgA (.var 0) "width" (.var 1),
   .asgA (.var 0) "variables" (.tpF (.var 2)),
   .asgA (.var 0) "rows" (.bcl .tuple [(.lc (.call f_reduced_row [(.var 4), (.bin .LShift (.con (.int 1)) (.var 1))] [] []) (.nm 4) (.seq (.var 3)) [] [4])])], false, false⟩
/-- Program.__getitem__ -/
def a_Program___getitem__ : Fd := ⟨"__getitem__", ["self", "row"], ["self", "row"],
  [.ex (.mth 0 f_Program_check_row "check_row" (.var 0) [(.var 1)]),
   .ret (.idx (.att (.var 0) "rows") (.var 1))], false, false⟩
/-- Program.check_row -/
def a_Program_check_row : Fd := ⟨"check_row", ["self", "row"], ["self", "row"],
  [.ifs (.nt (.call f_is_number_of [(.var 1), (.bcl .len [(.att (.var 0) "rows")])] [] [])) [.raise 1 ["row"] [(.var 1)]] []], false, false⟩
/-- Program.next_rows -/
def a_Program_next_rows : Fd := ⟨"next_rows", ["self", "row"], ["self", "row", "kind"],
  [.ex (.mth 0 f_Program_check_row "check_row" (.var 0) [(.var 1)]),
   .asg (.nm 2) (.idx (.idx (.att (.var 0) "rows") (.var 1)) (.con (.int 0))),
   .ifs (.cmp .Eq (.var 2) (.con (.str "stop"))) [.ret (.tupE [])] [],
   .ret (.ife (.cmp .Eq (.var 2) (.con (.str "choose"))) (.idx (.idx (.att (.var 0) "rows") (.var 1)) (.con (.int 1))) (.tupE [(.idx (.idx (.att (.var 0) "rows") (.var 1)) (.neg (.con (.int 1))))]))], false, false⟩
/-- Program.said_forms -/
def a_Program_said_forms : Fd := ⟨"said_forms", ["self", "row"], ["self", "row", "index"],
  [.ex (.mth 0 f_Program_check_row "check_row" (.var 0) [(.var 1)]),
   .ifs (.cmp .Eq (.idx (.idx (.att (.var 0) "rows") (.var 1)) (.con (.int 0))) (.con (.str "say"))) [.ret (.tupE [(.idx (.idx (.att (.var 0) "rows") (.var 1)) (.con (.int 1)))])] [],
   .ifs (.cmp .Eq (.idx (.idx (.att (.var 0) "rows") (.var 1)) (.con (.int 0))) (.con (.str "look"))) [.ret (.bcl .tuple [(.lc (.call f_variable_form [(.var 2), (.bcl .len [(.wk (.att (.var 0) "variables"))])] [] []) (.nm 2) (.rng [(.bcl .len [(.wk (.att (.var 0) "variables"))])]) [] [2])])] [],
   .ret (.tupE [])], false, false⟩
/-- Program.change -/
def a_Program_change : Fd := ⟨"change", ["self", "row"], ["self", "row", "many", "forms", "index"],
  [.ex (.mth 0 f_Program_check_row "check_row" (.var 0) [(.var 1)]),
   .asg (.nm 2) (.bcl .len [(.wk (.att (.var 0) "variables"))]),
   .asgF 3 (.lc (.bin .Add (.call f_variable_form [(.var 4), (.var 2)] [] []) (.tupE [(.con (.int 0))])) (.nm 4) (.rng [(.var 2)]) [] [4]),
   .ifs (.cmp .Eq (.idx (.idx (.att (.var 0) "rows") (.var 1)) (.con (.int 0))) (.con (.str "set"))) [.asgO 3 (.ixo true (.att (.var 0) "variables") (.idx (.idx (.att (.var 0) "rows") (.var 1)) (.con (.int 1)))) (.bin .Add (.idx (.idx (.att (.var 0) "rows") (.var 1)) (.con (.int 2))) (.tupE [(.con (.int 0))]))] [],
   .ifs (.cmp .Eq (.idx (.idx (.att (.var 0) "rows") (.var 1)) (.con (.int 0))) (.con (.str "ask"))) [.asgO 3 (.ixo true (.att (.var 0) "variables") (.idx (.idx (.att (.var 0) "rows") (.var 1)) (.con (.int 1)))) (.bin .Add (.bin .Mult (.tupE [(.con (.int 0))]) (.bin .Add (.var 2) (.con (.int 1)))) (.tupE [(.bin .Mod (.con (.int 1)) (.bin .LShift (.con (.int 1)) (.att (.var 0) "width")))]))] [],
   .frz [3] (.ret (.bcl .tuple [(.var 3)]))], false, false⟩
/-- variable_form -/
def a_variable_form : Fd := ⟨"variable_form", ["index", "many"], ["index", "many", "at"],
  [.ret (.bcl .tuple [(.lc (.bcl .int [(.cmp .Eq (.var 2) (.bin .Add (.var 0) (.con (.int 1))))]) (.nm 2) (.rng [(.bin .Add (.var 1) (.con (.int 1)))]) [] [2])])], false, false⟩
/-- value_of -/
def a_value_of : Fd := ⟨"value_of", ["form", "state", "modulus"], ["form", "state", "modulus", "one", "other"],
  [.ret (.bin .Mod (.bin .Add (.idx (.var 0) (.con (.int 0))) (.bcl .sum [(.lc (.bin .Mult (.var 3) (.var 4)) (.tp [(.nm 3), (.nm 4)]) (.zip (.slc (.var 0) (some (.con (.int 1))) none) (.var 1)) [] [3, 4])])) (.var 2))], false, false⟩
/-- check_numbers -/
def a_check_numbers : Fd := ⟨"check_numbers", ["numbers"], ["numbers"],
  [.ifs (.nt (.isI (.var 0) [.list, .tuple])) [.raise 3 ["index"] [(.neg (.con (.int 1)))]] []], false, false⟩
/-- is_pick -/
def a_is_pick : Fd := ⟨"is_pick", ["row", "number"], ["row", "number"],
  [.ifs (.orE (.nt (.call f_is_int [(.var 1)] [] [])) [(.cmp .Eq (.idx (.var 0) (.con (.int 0))) (.con (.str "stop")))]) [.ret (.con (.bool false))] [],
   .ifs (.cmp .Eq (.idx (.var 0) (.con (.int 0))) (.con (.str "ask"))) [.ret (.con (.bool true))] [],
   .ret (.ife (.cmp .Eq (.idx (.var 0) (.con (.int 0))) (.con (.str "choose"))) (.cmp2 .LtE .Lt (.con (.int 0)) (.var 1) (.bcl .len [(.idx (.var 0) (.con (.int 1)))])) (.cmp .Eq (.var 1) (.con (.int 0))))], false, false⟩
/-- checked_state -/
def a_checked_state : Fd := ⟨"checked_state", ["program", "state"], ["program", "state", "index", "number"],
  [.ifs (.orE (.nt (.isI (.var 1) [.list, .tuple])) [(.cmp .NotEq (.bcl .len [(.var 1)]) (.bcl .len [(.wk (.att (.var 0) "variables"))]))]) [.raise 2 ["index"] [(.neg (.con (.int 1)))]] [],
   .fr (.tp [(.nm 2), (.nm 3)]) (.enm (.var 1)) [.ifs (.nt (.call f_is_int [(.var 3)] [] [])) [.raise 2 ["index"] [(.var 2)]] []],
   .ret (.bcl .tuple [(.lc (.bin .Mod (.var 3) (.bin .LShift (.con (.int 1)) (.att (.var 0) "width"))) (.nm 3) (.seq (.var 1)) [] [3])])], false, false⟩
/-- walked -/
def a_walked : Fd := ⟨"walked", ["program", "row", "state", "numbers"], ["program", "row", "state", "numbers", "modulus", "said", "index", "number", "nexts", "form"],
  [.asg (.tp [(.nm 4), (.nm 5)]) (.tupE [(.bin .LShift (.con (.int 1)) (.att (.var 0) "width")), (.celE (.lstE []))]),
   .fr (.tp [(.nm 6), (.nm 7)]) (.enm (.var 3)) [.ifs (.nt (.call f_is_pick [(.idx (.att (.var 0) "rows") (.var 1)), (.var 7)] [] [])) [.raise 3 ["index"] [(.var 6)]] [], .ext 5 (.lc (.call f_value_of [(.var 9), (.var 2), (.var 4)] [] []) (.nm 9) (.seq (.mth 0 f_Program_said_forms "said_forms" (.var 0) [(.var 1)])) [] [9]), .asg (.nm 2) (.bcl .tuple [(.lc (.call f_value_of [(.var 9), (.bin .Add (.var 2) (.tupE [(.var 7)])), (.var 4)] [] []) (.nm 9) (.seq (.mth 0 f_Program_change "change" (.var 0) [(.var 1)])) [] [9])]), .asg (.nm 8) (.mth 0 f_Program_next_rows "next_rows" (.var 0) [(.var 1)]), .asg (.nm 1) (.ife (.cmp .Eq (.idx (.idx (.att (.var 0) "rows") (.var 1)) (.con (.int 0))) (.con (.str "choose"))) (.idx (.var 8) (.var 7)) (.idx (.var 8) (.con (.int 0))))],
   .ret (.tupE [(.var 1), (.var 2), (.var 5)])], false, false⟩
/-- go_on -/
def a_go_on : Fd := ⟨"go_on", ["program", "row", "state", "numbers"], ["program", "row", "state", "numbers"],
  [.ex (.mth 0 f_Program_check_row "check_row" (.var 0) [(.var 1)]),
   .asg (.nm 2) (.call f_checked_state [(.var 0), (.var 2)] [] []),
   .ex (.call f_check_numbers [(.var 3)] [] []),
   .ret (.call f_walked [(.var 0), (.var 1), (.var 2), (.var 3)] [] [])], false, false⟩
/-- _law_draw -/
def a__law_draw : Fd := ⟨"_law_draw", ["_law_well", "_law_many"], ["_law_well", "_law_many", "_law_number_here", "_law_found"],
  [.ifs (.cmp .Gt (.idx (.var 0) (.con (.int 0))) (.con (.int 0))) [.asg (.nm 3) (.bin .Mod (.bcl .int [(.idx (.var 0) (.con (.int 0)))]) (.var 1)), .asgI (.var 0) (.con (.int 0)) (.bin .FloorDiv (.idx (.var 0) (.con (.int 0))) (.var 1)), .ret (.var 3)] [],
   .asgI (.var 0) (.con (.int 2)) (.bin .Add (.idx (.var 0) (.con (.int 2))) (.con (.int 1))),
   .asg (.nm 2) (.bin .Mod (.bcl .int [(.bin .Mult (.bin .Add (.bin .Add (.idx (.var 0) (.con (.int 1))) (.bin .Mult (.con (.int 104729)) (.idx (.var 0) (.con (.int 2))))) (.con (.int 1))) (.con (.int 48271)))]) (.con (.int 2147483647))),
   .asg (.nm 2) (.bin .Mod (.bcl .int [(.bin .Mult (.var 2) (.bin .Add (.bin .FloorDiv (.var 2) (.con (.int 1009))) (.con (.int 69621))))]) (.con (.int 2147483647))),
   .ret (.bin .Mod (.bcl .int [(.bin .Mod (.bcl .int [(.bin .Mult (.var 2) (.bin .Add (.bin .FloorDiv (.var 2) (.con (.int 2003))) (.con (.int 40692))))]) (.con (.int 2147483399)))]) (.var 1))], false, false⟩
/-- _law_one -/
def a__law_one : Fd := ⟨"_law_one", ["_law_well", "_law_some"], ["_law_well", "_law_some"],
  [.ret (.idx (.var 1) (.call f__law_draw [(.var 0), (.bcl .len [(.var 1)])] [] []))], false, false⟩
/-- _law_number -/
def a__law_number : Fd := ⟨"_law_number", ["_law_well", "_law_width"], ["_law_well", "_law_width", "_law_some", "_law_half", "_law_all_bits"],
  [.par [3, 4] [(.bin .FloorDiv (.bin .LShift (.con (.int 1)) (.var 1)) (.con (.int 2))), (.bin .LShift (.con (.int 1)) (.var 1))],
   .asg (.nm 2) (.lstE [(.con (.int 0)), (.con (.int 1)), (.con (.int 1)), (.con (.int 2)), (.con (.int 3)), (.bin .Sub (.var 4) (.con (.int 1))), (.var 3), (.bin .Add (.bin .Mult (.call f__law_draw [(.var 0), (.bin .Pow (.con (.int 2)) (.con (.int 31)))] [] []) (.bin .Pow (.con (.int 2)) (.con (.int 33)))) (.call f__law_draw [(.var 0), (.bin .Pow (.con (.int 2)) (.con (.int 33)))] [] []))]),
   .ret (.bin .Mod (.bcl .int [(.idx (.var 2) (.call f__law_draw [(.var 0), (.con (.int 8))] [] []))]) (.var 4))], false, false⟩
/-- _law_form -/
def a__law_form : Fd := ⟨"_law_form", ["_law_well", "_law_width", "_law_many"], ["_law_well", "_law_width", "_law_many", "_law_found", "_law_k"],
  [.asgF 3 (.lstE [(.bin .Mult (.call f__law_number [(.var 0), (.var 1)] [] []) (.bcl .int [(.cmp .Eq (.call f__law_draw [(.var 0), (.con (.int 3))] [] []) (.con (.int 0)))]))]),
   .fr (.nm 4) (.rng [(.var 2)]) [.app 3 (.bin .Mult (.call f__law_number [(.var 0), (.var 1)] [] []) (.bcl .int [(.cmp .Gt (.call f__law_draw [(.var 0), (.con (.int 3))] [] []) (.con (.int 0)))]))],
   .frz [3] (.ret (.bcl .tuple [(.var 3)]))], false, false⟩
/-- _law_row -/
def a__law_row : Fd := ⟨"_law_row", ["_law_well", "_law_width", "_law_names", "_law_total", "_law_k"], ["_law_well", "_law_width", "_law_names", "_law_total", "_law_k", "_law_ahead", "_law_kind", "_law_turn"],
  [.asg (.nm 5) (.idx (.lstE [(.bin .Mod (.bcl .int [(.bin .Add (.var 4) (.con (.int 1)))]) (.var 3)), (.bin .Mod (.bcl .int [(.bin .Add (.var 4) (.con (.int 1)))]) (.var 3)), (.call f__law_draw [(.var 0), (.var 3)] [] [])]) (.call f__law_draw [(.var 0), (.con (.int 3))] [] [])),
   .asg (.nm 6) (.call f__law_one [(.var 0), (.lstE [(.con (.str "set")), (.con (.str "set")), (.con (.str "set")), (.con (.str "say")), (.con (.str "ask")), (.con (.str "choose")), (.con (.str "choose")), (.con (.str "look")), (.con (.str "stop"))])] [] []),
   .ifs (.cmp .Eq (.var 6) (.con (.str "set"))) [.ret (.tupE [(.con (.str "set")), (.call f__law_one [(.var 0), (.var 2)] [] []), (.call f__law_form [(.var 0), (.var 1), (.bcl .len [(.var 2)])] [] []), (.var 5)])] [],
   .ifs (.cmp .Eq (.var 6) (.con (.str "say"))) [.ret (.tupE [(.con (.str "say")), (.call f__law_form [(.var 0), (.var 1), (.bcl .len [(.var 2)])] [] []), (.var 5)])] [],
   .ifs (.cmp .Eq (.var 6) (.con (.str "ask"))) [.ret (.tupE [(.con (.str "ask")), (.call f__law_one [(.var 0), (.var 2)] [] []), (.var 5)])] [],
   .ifs (.cmp .Eq (.var 6) (.con (.str "choose"))) [.ret (.tupE [(.con (.str "choose")), (.bcl .tuple [(.bin .Add (.lstE [(.var 5)]) (.lc (.call f__law_draw [(.var 0), (.var 3)] [] []) (.nm 7) (.rng [(.call f__law_draw [(.var 0), (.con (.int 3))] [] [])]) [] [7]))])])] [],
   .ifs (.andE (.cmp .Eq (.var 6) (.con (.str "stop"))) [(.cmp .Eq (.call f__law_draw [(.var 0), (.con (.int 2))] [] []) (.con (.int 0)))]) [.ret (.tupE [(.con (.str "stop"))])] [],
   .ret (.ife (.cmp .Eq (.call f__law_draw [(.var 0), (.con (.int 3))] [] []) (.con (.int 0))) (.tupE [(.con (.str "look")), (.var 5)]) (.tupE [(.con (.str "say")), (.bin .Add (.bin .Mult (.tupE [(.con (.int 0))]) (.bcl .len [(.var 2)])) (.tupE [(.con (.int 1))])), (.var 5)]))], false, false⟩
/-- _law_rows -/
def a__law_rows : Fd := ⟨"_law_rows", ["_law_well", "_law_width", "_law_names", "_law_total"], ["_law_well", "_law_width", "_law_names", "_law_total", "_law_k"],
  [.ret (.lc (.call f__law_row [(.var 0), (.var 1), (.var 2), (.var 3), (.var 4)] [] []) (.nm 4) (.rng [(.var 3)]) [] [4])], false, false⟩
/-- _law_raised -/
def a__law_raised : Fd := ⟨"_law_raised", ["_law_ask"], ["_law_ask", "_law_found", "e"],
  [.asg (.nm 1) (.con .none),
   .tr .ex (.thk 0) [⟨1, some 2, (.asg 1 (.tup [(.con (.str "row")), (.fld "row")]))⟩, ⟨2, some 2, (.asg 1 (.tup [(.con (.str "state")), (.fld "index")]))⟩, ⟨3, some 2, (.asg 1 (.tup [(.con (.str "run")), (.fld "index")]))⟩],
   .ret (.var 1)], false, true⟩
/-- _law_right -/
def a__law_right : Fd := ⟨"_law_right", ["_law_well"], ["_law_well", "_law_names", "_law_program", "_law_odd", "_law_spot", "_law_width", "_law_total", "_law_many", "_law_at", "_law_state"],
  [.par [5, 6] [(.call f__law_one [(.var 0), (.lstE [(.con (.int 1)), (.con (.int 2)), (.con (.int 8)), (.con (.int 64))])] [] []), (.bin .Add (.con (.int 1)) (.call f__law_draw [(.var 0), (.con (.int 25))] [] []))],
   .asg (.nm 1) (.slc (.lstE [(.con (.str "y")), (.con (.str "x")), (.con (.str "zed")), (.con (.str "ab")), (.con (.str "q"))]) none (some (.bin .Add (.con (.int 1)) (.call f__law_draw [(.var 0), (.con (.int 5))] [] [])))),
   .asg (.nm 2) (.mk 0 f_Program___init__ [(.var 5), (.var 1), (.call f__law_rows [(.var 0), (.var 5), (.var 1), (.var 6)] [] [])]),
   .asg (.tp [(.nm 7), (.nm 8)]) (.tupE [(.bcl .len [(.var 1)]), (.call f__law_draw [(.var 0), (.var 6)] [] [])]),
   .fr (.nm 3) (.seq (.lstE [(.neg (.con (.int 1))), (.var 6), (.con .none), (.con (.bool true)), (.con (.bool false)), (.con (.str "0")), (.lstE [(.con (.int 0))]), (.tupE [(.con (.int 0))]), (.dcE [] []), (.bin .Pow (.con (.int 10)) (.con (.int 30)))])) [.ifs (.eqI true (.callT f__law_raised (.idxO 0 f_Program___getitem__ (.var 2) (.var 3))) (.tupE [(.con (.str "row")), (.var 3)])) [.ret (.con (.bool false))] [], .ifs (.eqI true (.callT f__law_raised (.call f_go_on [(.var 2), (.var 3), (.con .none), (.con .none)] [] [])) (.tupE [(.con (.str "row")), (.var 3)])) [.ret (.con (.bool false))] []],
   .fr (.nm 3) (.seq (.lstE [(.con .none), (.dicE [] []), (.bin .Mult (.con (.str "a")) (.var 7)), (.bin .Mult (.tupE [(.con (.int 0))]) (.bin .Add (.var 7) (.con (.int 1)))), (.bin .Mult (.lstE [(.con (.int 0))]) (.bin .Sub (.var 7) (.con (.int 1)))), (.con (.int 5))])) [.ifs (.eqI true (.callT f__law_raised (.call f_go_on [(.var 2), (.var 8), (.var 3), (.con .none)] [] [])) (.tupE [(.con (.str "state")), (.neg (.con (.int 1)))])) [.ret (.con (.bool false))] []],
   .asg (.nm 4) (.call f__law_draw [(.var 0), (.var 7)] [] []),
   .fr (.nm 3) (.seq (.lstE [(.con .none), (.con (.bool true)), (.con (.str "1")), (.lstE [(.con (.int 1))]), (.tupE [(.con (.int 1))]), (.dicE [] [])])) [.asg (.nm 9) (.bin .Add (.bin .Add (.bin .Mult (.lstE [(.con (.int 3))]) (.var 4)) (.lstE [(.var 3)])) (.bin .Mult (.lstE [(.con .none)]) (.bin .Sub (.bin .Sub (.var 7) (.var 4)) (.con (.int 1))))), .ifs (.eqI true (.callT f__law_raised (.call f_go_on [(.var 2), (.var 8), (.var 9), (.con .none)] [] [])) (.tupE [(.con (.str "state")), (.var 4)])) [.ret (.con (.bool false))] [], .ifs (.eqI true (.callT f__law_raised (.call f_go_on [(.var 2), (.var 8), (.bcl .tuple [(.var 9)]), (.lstE [(.con (.int 0))])] [] [])) (.tupE [(.con (.str "state")), (.var 4)])) [.ret (.con (.bool false))] []],
   .fr (.nm 3) (.seq (.lstE [(.con .none), (.dicE [] []), (.con (.str "00")), (.con (.int 0)), (.con (.bool true))])) [.ifs (.eqI true (.callT f__law_raised (.call f_go_on [(.var 2), (.var 8), (.bin .Mult (.lstE [(.con (.int 0))]) (.var 7)), (.var 3)] [] [])) (.tupE [(.con (.str "run")), (.neg (.con (.int 1)))])) [.ret (.con (.bool false))] []],
   .ret (.isN (.callT f__law_raised (.call f_go_on [(.var 2), (.var 8), (.bin .Mult (.lstE [(.bin .Pow (.con (.int 10)) (.con (.int 30)))]) (.var 7)), (.tupE [])] [] [])))], true, false⟩
/-- law -/
def a_law : Fd := ⟨"law", ["_law_script"], ["_law_script", "_law_k", "_law_cell", "_law_well"],
  [.fr (.tp [(.nm 1), (.nm 2)]) (.enm (.slc (.bin .Add (.var 0) (.lstE [(.con (.int 0))])) none (some (.con (.int 6))))) [.asg (.nm 3) (.celE (.lstE [(.bin .Mult (.var 2) (.bcl .int [(.cmp .GtE (.var 2) (.bin .Pow (.con (.int 10)) (.con (.int 18))))])), (.bin .Add (.bin .Mod (.bcl .int [(.var 2)]) (.con (.int 2147483647))) (.bin .Mult (.con (.int 7919)) (.var 1))), (.con (.int 0))])), .ifs (.nt (.call f__law_right [(.var 3)] [] [])) [.ret (.con (.bool false))] []],
   .ret (.con (.bool true))], false, false⟩
def c_is_int : FnC := ⟨none, "is_int", "is_int", a_is_int, top 13⟩
def c_is_number_of : FnC := ⟨none, "is_number_of", "is_number_of", a_is_number_of, top 14⟩
def c_is_name : FnC := ⟨none, "is_name", "is_name", a_is_name, top 15⟩
def c_are_ints : FnC := ⟨none, "are_ints", "are_ints", a_are_ints, top 16⟩
def c_is_set_row : FnC := ⟨none, "is_set_row", "is_set_row", a_is_set_row, top 17⟩
def c_is_choose_row : FnC := ⟨none, "is_choose_row", "is_choose_row", a_is_choose_row, top 18⟩
def c_is_row : FnC := ⟨none, "is_row", "is_row", a_is_row, top 19⟩
def c_check_program : FnC := ⟨none, "check_program", "check_program", a_check_program, top 20⟩
def c_reduced : FnC := ⟨none, "reduced", "reduced", a_reduced, top 21⟩
def c_reduced_row : FnC := ⟨none, "reduced_row", "reduced_row", a_reduced_row, top 22⟩
def c_Program___init__ : FnC := ⟨some 0, "__init__", "Program.__init__", a_Program___init__, inCls (top 23) 0⟩
def c_Program___getitem__ : FnC := ⟨some 0, "__getitem__", "Program.__getitem__", a_Program___getitem__, inCls (top 23) 3⟩
def c_Program_check_row : FnC := ⟨some 0, "check_row", "Program.check_row", a_Program_check_row, inCls (top 23) 6⟩
def c_Program_next_rows : FnC := ⟨some 0, "next_rows", "Program.next_rows", a_Program_next_rows, inCls (top 23) 7⟩
def c_Program_said_forms : FnC := ⟨some 0, "said_forms", "Program.said_forms", a_Program_said_forms, inCls (top 23) 8⟩
def c_Program_change : FnC := ⟨some 0, "change", "Program.change", a_Program_change, inCls (top 23) 9⟩
def c_variable_form : FnC := ⟨none, "variable_form", "variable_form", a_variable_form, top 24⟩
def c_value_of : FnC := ⟨none, "value_of", "value_of", a_value_of, top 25⟩
def c_check_numbers : FnC := ⟨none, "check_numbers", "check_numbers", a_check_numbers, top 27⟩
def c_is_pick : FnC := ⟨none, "is_pick", "is_pick", a_is_pick, top 28⟩
def c_checked_state : FnC := ⟨none, "checked_state", "checked_state", a_checked_state, top 29⟩
def c_walked : FnC := ⟨none, "walked", "walked", a_walked, top 30⟩
def c_go_on : FnC := ⟨none, "go_on", "go_on", a_go_on, top 31⟩
def c__law_draw : FnC := ⟨none, "_law_draw", "_law_draw", a__law_draw, top 33⟩
def c__law_one : FnC := ⟨none, "_law_one", "_law_one", a__law_one, top 34⟩
def c__law_number : FnC := ⟨none, "_law_number", "_law_number", a__law_number, top 35⟩
def c__law_form : FnC := ⟨none, "_law_form", "_law_form", a__law_form, top 36⟩
def c__law_row : FnC := ⟨none, "_law_row", "_law_row", a__law_row, top 37⟩
def c__law_rows : FnC := ⟨none, "_law_rows", "_law_rows", a__law_rows, top 38⟩
def c__law_raised : FnC := ⟨none, "_law_raised", "_law_raised", a__law_raised, top 39⟩
def c__law_right : FnC := ⟨none, "_law_right", "_law_right", a__law_right, top 40⟩
def c_law : FnC := ⟨none, "law", "law", a_law, top 41⟩
def x_KeepError : ExC := ⟨"KeepError", [], "KeepError.__init__", top 1⟩
def x_NoRow : ExC := ⟨"NoRow", ["row"], "NoRow.__init__", inCls (top 3) 0⟩
def x_NoState : ExC := ⟨"NoState", ["index"], "NoState.__init__", inCls (top 4) 0⟩
def x_NoRun : ExC := ⟨"NoRun", ["index"], "NoRun.__init__", inCls (top 5) 0⟩
def cfg : Cfg where
  fs := [c_is_int, c_is_number_of, c_is_name, c_are_ints, c_is_set_row, c_is_choose_row, c_is_row, c_check_program, c_reduced, c_reduced_row, c_Program___init__, c_Program___getitem__, c_Program_check_row, c_Program_next_rows, c_Program_said_forms, c_Program_change, c_variable_form, c_value_of, c_check_numbers, c_is_pick, c_checked_state, c_walked, c_go_on, c__law_draw, c__law_one, c__law_number, c__law_form, c__law_row, c__law_rows, c__law_raised, c__law_right, c_law]
  cls := ["Program"]
  gl := [("MAX_NAME", .int 8), ("LETTERS", .str "abcdefghijklmnopqrstuvwxyz"), ("MAX_WAYS", .int 6), ("MAX_WIDTH", .int 64), ("MAX_VARIABLES", .int 6), ("MAX_ROWS", .int 25)]
  ats := ["width", "variables", "rows"]
  kw := []
  kf := []
  ex := [x_KeepError, x_NoRow, x_NoState, x_NoRun]
theorem g_is_int : FnG cfg c_is_int where
  nm := rfl
  sc := ⟨rfl, rfl, rfl, by decide +kernel, rfl, by decide +kernel, by decide +kernel⟩
  ch := by decide +kernel
  bd := fun _ _ _ _ _ _ us hl => match us, hl with | [_], _ => rfl
  fl := fun h => nomatch (show false = true from h)
theorem g_is_number_of : FnG cfg c_is_number_of where
  nm := rfl
  sc := ⟨rfl, rfl, rfl, by decide +kernel, rfl, by decide +kernel, by decide +kernel⟩
  ch := by decide +kernel
  bd := fun _ _ _ _ _ _ us hl => match us, hl with | [_, _], _ => rfl
  fl := fun h => nomatch (show false = true from h)
theorem g_is_name : FnG cfg c_is_name where
  nm := rfl
  sc := ⟨rfl, rfl, rfl, by decide +kernel, rfl, by decide +kernel, by decide +kernel⟩
  ch := by decide +kernel
  bd := fun _ _ _ _ _ _ us hl => match us, hl with | [_], _ => rfl
  fl := fun h => nomatch (show false = true from h)
theorem g_are_ints : FnG cfg c_are_ints where
  nm := rfl
  sc := ⟨rfl, rfl, rfl, by decide +kernel, rfl, by decide +kernel, by decide +kernel⟩
  ch := by decide +kernel
  bd := fun _ _ _ _ _ _ us hl => match us, hl with | [_, _], _ => rfl
  fl := fun h => nomatch (show false = true from h)
theorem g_is_set_row : FnG cfg c_is_set_row where
  nm := rfl
  sc := ⟨rfl, rfl, rfl, by decide +kernel, rfl, by decide +kernel, by decide +kernel⟩
  ch := by decide +kernel
  bd := fun _ _ _ _ _ _ us hl => match us, hl with | [_, _, _], _ => rfl
  fl := fun h => nomatch (show false = true from h)
theorem g_is_choose_row : FnG cfg c_is_choose_row where
  nm := rfl
  sc := ⟨rfl, rfl, rfl, by decide +kernel, rfl, by decide +kernel, by decide +kernel⟩
  ch := by decide +kernel
  bd := fun _ _ _ _ _ _ us hl => match us, hl with | [_, _], _ => rfl
  fl := fun h => nomatch (show false = true from h)
theorem g_is_row : FnG cfg c_is_row where
  nm := rfl
  sc := ⟨rfl, rfl, rfl, by decide +kernel, rfl, by decide +kernel, by decide +kernel⟩
  ch := by decide +kernel
  bd := fun _ _ _ _ _ _ us hl => match us, hl with | [_, _, _], _ => rfl
  fl := fun h => nomatch (show false = true from h)
theorem g_check_program : FnG cfg c_check_program where
  nm := rfl
  sc := ⟨rfl, rfl, rfl, by decide +kernel, rfl, by decide +kernel, by decide +kernel⟩
  ch := by decide +kernel
  bd := fun _ _ _ _ _ _ us hl => match us, hl with | [_, _, _], _ => rfl
  fl := fun h => nomatch (show false = true from h)
theorem g_reduced : FnG cfg c_reduced where
  nm := rfl
  sc := ⟨rfl, rfl, rfl, by decide +kernel, rfl, by decide +kernel, by decide +kernel⟩
  ch := by decide +kernel
  bd := fun _ _ _ _ _ _ us hl => match us, hl with | [_, _], _ => rfl
  fl := fun h => nomatch (show false = true from h)
theorem g_reduced_row : FnG cfg c_reduced_row where
  nm := rfl
  sc := ⟨rfl, rfl, rfl, by decide +kernel, rfl, by decide +kernel, by decide +kernel⟩
  ch := by decide +kernel
  bd := fun _ _ _ _ _ _ us hl => match us, hl with | [_, _], _ => rfl
  fl := fun h => nomatch (show false = true from h)
theorem g_Program___init__ : FnG cfg c_Program___init__ where
  nm := rfl
  sc := ⟨rfl, rfl, rfl, by decide +kernel, rfl, by decide +kernel, by decide +kernel⟩
  ch := by decide +kernel
  bd := fun _ _ _ _ _ _ us hl => match us, hl with | [_, _, _, _], _ => rfl
  fl := fun h => nomatch (show false = true from h)
theorem g_Program___getitem__ : FnG cfg c_Program___getitem__ where
  nm := rfl
  sc := ⟨rfl, rfl, rfl, by decide +kernel, rfl, by decide +kernel, by decide +kernel⟩
  ch := by decide +kernel
  bd := fun _ _ _ _ _ _ us hl => match us, hl with | [_, _], _ => rfl
  fl := fun h => nomatch (show false = true from h)
theorem g_Program_check_row : FnG cfg c_Program_check_row where
  nm := rfl
  sc := ⟨rfl, rfl, rfl, by decide +kernel, rfl, by decide +kernel, by decide +kernel⟩
  ch := by decide +kernel
  bd := fun _ _ _ _ _ _ us hl => match us, hl with | [_, _], _ => rfl
  fl := fun h => nomatch (show false = true from h)
theorem g_Program_next_rows : FnG cfg c_Program_next_rows where
  nm := rfl
  sc := ⟨rfl, rfl, rfl, by decide +kernel, rfl, by decide +kernel, by decide +kernel⟩
  ch := by decide +kernel
  bd := fun _ _ _ _ _ _ us hl => match us, hl with | [_, _], _ => rfl
  fl := fun h => nomatch (show false = true from h)
theorem g_Program_said_forms : FnG cfg c_Program_said_forms where
  nm := rfl
  sc := ⟨rfl, rfl, rfl, by decide +kernel, rfl, by decide +kernel, by decide +kernel⟩
  ch := by decide +kernel
  bd := fun _ _ _ _ _ _ us hl => match us, hl with | [_, _], _ => rfl
  fl := fun h => nomatch (show false = true from h)
theorem g_Program_change : FnG cfg c_Program_change where
  nm := rfl
  sc := ⟨rfl, rfl, rfl, by decide +kernel, rfl, by decide +kernel, by decide +kernel⟩
  ch := by decide +kernel
  bd := fun _ _ _ _ _ _ us hl => match us, hl with | [_, _], _ => rfl
  fl := fun h => nomatch (show false = true from h)
theorem g_variable_form : FnG cfg c_variable_form where
  nm := rfl
  sc := ⟨rfl, rfl, rfl, by decide +kernel, rfl, by decide +kernel, by decide +kernel⟩
  ch := by decide +kernel
  bd := fun _ _ _ _ _ _ us hl => match us, hl with | [_, _], _ => rfl
  fl := fun h => nomatch (show false = true from h)
theorem g_value_of : FnG cfg c_value_of where
  nm := rfl
  sc := ⟨rfl, rfl, rfl, by decide +kernel, rfl, by decide +kernel, by decide +kernel⟩
  ch := by decide +kernel
  bd := fun _ _ _ _ _ _ us hl => match us, hl with | [_, _, _], _ => rfl
  fl := fun h => nomatch (show false = true from h)
theorem g_check_numbers : FnG cfg c_check_numbers where
  nm := rfl
  sc := ⟨rfl, rfl, rfl, by decide +kernel, rfl, by decide +kernel, by decide +kernel⟩
  ch := by decide +kernel
  bd := fun _ _ _ _ _ _ us hl => match us, hl with | [_], _ => rfl
  fl := fun h => nomatch (show false = true from h)
theorem g_is_pick : FnG cfg c_is_pick where
  nm := rfl
  sc := ⟨rfl, rfl, rfl, by decide +kernel, rfl, by decide +kernel, by decide +kernel⟩
  ch := by decide +kernel
  bd := fun _ _ _ _ _ _ us hl => match us, hl with | [_, _], _ => rfl
  fl := fun h => nomatch (show false = true from h)
theorem g_checked_state : FnG cfg c_checked_state where
  nm := rfl
  sc := ⟨rfl, rfl, rfl, by decide +kernel, rfl, by decide +kernel, by decide +kernel⟩
  ch := by decide +kernel
  bd := fun _ _ _ _ _ _ us hl => match us, hl with | [_, _], _ => rfl
  fl := fun h => nomatch (show false = true from h)
theorem g_walked : FnG cfg c_walked where
  nm := rfl
  sc := ⟨rfl, rfl, rfl, by decide +kernel, rfl, by decide +kernel, by decide +kernel⟩
  ch := by decide +kernel
  bd := fun _ _ _ _ _ _ us hl => match us, hl with | [_, _, _, _], _ => rfl
  fl := fun h => nomatch (show false = true from h)
theorem g_go_on : FnG cfg c_go_on where
  nm := rfl
  sc := ⟨rfl, rfl, rfl, by decide +kernel, rfl, by decide +kernel, by decide +kernel⟩
  ch := by decide +kernel
  bd := fun _ _ _ _ _ _ us hl => match us, hl with | [_, _, _, _], _ => rfl
  fl := fun h => nomatch (show false = true from h)
theorem g__law_draw : FnG cfg c__law_draw where
  nm := rfl
  sc := ⟨rfl, rfl, rfl, by decide +kernel, rfl, by decide +kernel, by decide +kernel⟩
  ch := by decide +kernel
  bd := fun _ _ _ _ _ _ us hl => match us, hl with | [_, _], _ => rfl
  fl := fun h => nomatch (show false = true from h)
theorem g__law_one : FnG cfg c__law_one where
  nm := rfl
  sc := ⟨rfl, rfl, rfl, by decide +kernel, rfl, by decide +kernel, by decide +kernel⟩
  ch := by decide +kernel
  bd := fun _ _ _ _ _ _ us hl => match us, hl with | [_, _], _ => rfl
  fl := fun h => nomatch (show false = true from h)
theorem g__law_number : FnG cfg c__law_number where
  nm := rfl
  sc := ⟨rfl, rfl, rfl, by decide +kernel, rfl, by decide +kernel, by decide +kernel⟩
  ch := by decide +kernel
  bd := fun _ _ _ _ _ _ us hl => match us, hl with | [_, _], _ => rfl
  fl := fun h => nomatch (show false = true from h)
theorem g__law_form : FnG cfg c__law_form where
  nm := rfl
  sc := ⟨rfl, rfl, rfl, by decide +kernel, rfl, by decide +kernel, by decide +kernel⟩
  ch := by decide +kernel
  bd := fun _ _ _ _ _ _ us hl => match us, hl with | [_, _, _], _ => rfl
  fl := fun h => nomatch (show false = true from h)
theorem g__law_row : FnG cfg c__law_row where
  nm := rfl
  sc := ⟨rfl, rfl, rfl, by decide +kernel, rfl, by decide +kernel, by decide +kernel⟩
  ch := by decide +kernel
  bd := fun _ _ _ _ _ _ us hl => match us, hl with | [_, _, _, _, _], _ => rfl
  fl := fun h => nomatch (show false = true from h)
theorem g__law_rows : FnG cfg c__law_rows where
  nm := rfl
  sc := ⟨rfl, rfl, rfl, by decide +kernel, rfl, by decide +kernel, by decide +kernel⟩
  ch := by decide +kernel
  bd := fun _ _ _ _ _ _ us hl => match us, hl with | [_, _, _, _], _ => rfl
  fl := fun h => nomatch (show false = true from h)
theorem g__law_raised : FnG cfg c__law_raised where
  nm := rfl
  sc := ⟨rfl, rfl, rfl, by decide +kernel, rfl, by decide +kernel, by decide +kernel⟩
  ch := by decide +kernel
  bd := fun _ _ _ _ _ _ us hl => match us, hl with | [_], _ => rfl
  fl := fun h => ⟨rfl, rfl, _, rfl, by decide +kernel, by decide +kernel⟩
theorem g__law_right : FnG cfg c__law_right where
  nm := rfl
  sc := ⟨rfl, rfl, rfl, by decide +kernel, rfl, by decide +kernel, by decide +kernel⟩
  ch := by decide +kernel
  bd := fun _ _ _ _ _ _ us hl => match us, hl with | [_], _ => rfl
  fl := fun h => nomatch (show false = true from h)
theorem g_law : FnG cfg c_law where
  nm := rfl
  sc := ⟨rfl, rfl, rfl, by decide +kernel, rfl, by decide +kernel, by decide +kernel⟩
  ch := by decide +kernel
  bd := fun _ _ _ _ _ _ us hl => match us, hl with | [_], _ => rfl
  fl := fun h => nomatch (show false = true from h)
theorem gs : ∀ (f : Nat) (x : FnC), cfg.fs[f]? = some x → FnG cfg x
  | 0, x, h => (Option.some.inj (show some c_is_int = some x from h)) ▸ g_is_int
  | 1, x, h => (Option.some.inj (show some c_is_number_of = some x from h)) ▸ g_is_number_of
  | 2, x, h => (Option.some.inj (show some c_is_name = some x from h)) ▸ g_is_name
  | 3, x, h => (Option.some.inj (show some c_are_ints = some x from h)) ▸ g_are_ints
  | 4, x, h => (Option.some.inj (show some c_is_set_row = some x from h)) ▸ g_is_set_row
  | 5, x, h => (Option.some.inj (show some c_is_choose_row = some x from h)) ▸ g_is_choose_row
  | 6, x, h => (Option.some.inj (show some c_is_row = some x from h)) ▸ g_is_row
  | 7, x, h => (Option.some.inj (show some c_check_program = some x from h)) ▸ g_check_program
  | 8, x, h => (Option.some.inj (show some c_reduced = some x from h)) ▸ g_reduced
  | 9, x, h => (Option.some.inj (show some c_reduced_row = some x from h)) ▸ g_reduced_row
  | 10, x, h => (Option.some.inj (show some c_Program___init__ = some x from h)) ▸ g_Program___init__
  | 11, x, h => (Option.some.inj (show some c_Program___getitem__ = some x from h)) ▸ g_Program___getitem__
  | 12, x, h => (Option.some.inj (show some c_Program_check_row = some x from h)) ▸ g_Program_check_row
  | 13, x, h => (Option.some.inj (show some c_Program_next_rows = some x from h)) ▸ g_Program_next_rows
  | 14, x, h => (Option.some.inj (show some c_Program_said_forms = some x from h)) ▸ g_Program_said_forms
  | 15, x, h => (Option.some.inj (show some c_Program_change = some x from h)) ▸ g_Program_change
  | 16, x, h => (Option.some.inj (show some c_variable_form = some x from h)) ▸ g_variable_form
  | 17, x, h => (Option.some.inj (show some c_value_of = some x from h)) ▸ g_value_of
  | 18, x, h => (Option.some.inj (show some c_check_numbers = some x from h)) ▸ g_check_numbers
  | 19, x, h => (Option.some.inj (show some c_is_pick = some x from h)) ▸ g_is_pick
  | 20, x, h => (Option.some.inj (show some c_checked_state = some x from h)) ▸ g_checked_state
  | 21, x, h => (Option.some.inj (show some c_walked = some x from h)) ▸ g_walked
  | 22, x, h => (Option.some.inj (show some c_go_on = some x from h)) ▸ g_go_on
  | 23, x, h => (Option.some.inj (show some c__law_draw = some x from h)) ▸ g__law_draw
  | 24, x, h => (Option.some.inj (show some c__law_one = some x from h)) ▸ g__law_one
  | 25, x, h => (Option.some.inj (show some c__law_number = some x from h)) ▸ g__law_number
  | 26, x, h => (Option.some.inj (show some c__law_form = some x from h)) ▸ g__law_form
  | 27, x, h => (Option.some.inj (show some c__law_row = some x from h)) ▸ g__law_row
  | 28, x, h => (Option.some.inj (show some c__law_rows = some x from h)) ▸ g__law_rows
  | 29, x, h => (Option.some.inj (show some c__law_raised = some x from h)) ▸ g__law_raised
  | 30, x, h => (Option.some.inj (show some c__law_right = some x from h)) ▸ g__law_right
  | 31, x, h => (Option.some.inj (show some c_law = some x from h)) ▸ g_law
  | n + 32, x, h => by
    have h1 : (none : Option FnC) = some x := h
    cases h1
theorem kws : ∀ e ∈ cfg.kw, KwG cfg e := by
  intro e he
  have he' : e ∈ ([] : List (Nat × Nat × List Str × List Nat)) := he
  simp only [List.mem_cons, List.not_mem_nil, or_false] at he'
theorem kfs : ∀ e ∈ cfg.kf, KfG cfg e := by
  intro e he
  have he' : e ∈ ([] : List (Nat × Nat × List Str × List Nat)) := he
  simp only [List.mem_cons, List.not_mem_nil, or_false] at he'
theorem xg_NoRow : ExG cfg x_NoRow where
  sc := ⟨rfl, rfl, rfl, by decide +kernel, rfl, by decide +kernel, by decide +kernel⟩
  ch := fun b h => (Option.some.inj (show some x_KeepError = some b from h)) ▸ (by decide +kernel)
  bd := fun _ _ _ _ _ _ us hl => match us, hl with | [_, _], _ => rfl
theorem xg_NoState : ExG cfg x_NoState where
  sc := ⟨rfl, rfl, rfl, by decide +kernel, rfl, by decide +kernel, by decide +kernel⟩
  ch := fun b h => (Option.some.inj (show some x_KeepError = some b from h)) ▸ (by decide +kernel)
  bd := fun _ _ _ _ _ _ us hl => match us, hl with | [_, _], _ => rfl
theorem xg_NoRun : ExG cfg x_NoRun where
  sc := ⟨rfl, rfl, rfl, by decide +kernel, rfl, by decide +kernel, by decide +kernel⟩
  ch := fun b h => (Option.some.inj (show some x_KeepError = some b from h)) ▸ (by decide +kernel)
  bd := fun _ _ _ _ _ _ us hl => match us, hl with | [_, _], _ => rfl
theorem xgs : ∀ x ∈ cfg.ex, x.ns ≠ [] → ExG cfg x := by
  intro x hx hne
  have hx' : x ∈ ([x_KeepError, x_NoRow, x_NoState, x_NoRun] : List ExC) := hx
  simp only [List.mem_cons, List.not_mem_nil, or_false] at hx'
  rcases hx' with rfl | rfl | rfl | rfl
  · exact absurd rfl hne
  · exact xg_NoRow
  · exact xg_NoState
  · exact xg_NoRun
end K03

set_option Elab.async false
set_option linter.all false
set_option maxRecDepth 100000
set_option maxHeartbeats 400000
namespace K03
open PySem L2 Mp
variable {g n : Nat} {S : Store} {P : D → Store → Prop} {xp : XPost}
@[simp] theorem is_int_sp {d : D} (h : okI S d = true) : @wpI _ xp ((sem cfg.F g (n+1)).fn f_is_int [d] [] [] S) ⟨P⟩ = P (.bl (isInt d)) S := by
  refine (run_eq (d := a_is_int) [.va d] rfl rfl rfl).trans ?_
  simp [a_is_int, h]
  cases d <;> simp [isInt, isD] at *
def isNum (d : D) (m : Int) : Bool := match d with
  | .int i => decide (0 ≤ i) && decide (i < m)
  | _ => false
@[simp] theorem is_number_of_sp {d : D} {m : Int} (h : okI S d = true) : @wpI _ xp ((sem cfg.F g (n+2)).fn f_is_number_of [d, .int m] [] [] S) ⟨P⟩ = P (.bl (isNum d m)) S := by
  refine (run_eq (d := a_is_number_of) [.va d, .va (.int m)] rfl rfl rfl).trans ?_
  simp [a_is_number_of, h]
  cases d <;> simp [isInt, isNum] at *
  rename_i i
  by_cases h0 : 0 ≤ i <;> simp [h0]
theorem draw_sp {c : Nat} {m : Int} (hw : Well S c) (hm : 0 < m)  (hd : divB m = true) (k : ∀ r S1, 0 ≤ r → r < m → WU c S S1 → P (.int r) S1) : wp ((sem cfg.F g (n+1)).fn f__law_draw [.cel c, .int m] [] [] S) P := by
  refine run_fn (d := a__law_draw) [.va (.cel c), .va (.int m), .no, .no] rfl rfl rfl ?_
  simp only [a__law_draw]
  have hl := hw.lt
  obtain ⟨x, y, z, e⟩ := hw
  simp [idx_cel e]
  by_cases hx : 0 < x
  · simp [hx, idx_cel e, hm, hd, lsO_cel (i := 0) (j := 0) e rfl]
    exact k _ _ (Int.emod_nonneg _ (by omega)) (Int.emod_lt_of_pos _ hm) (WU.set hl _ _ _)
  · have e2 : (S.set c (.lst [.int x, .int y, .int (z + 1)]))[c]? = some (.lst [.int x, .int y, .int (z + 1)]) := by simp [hl]
    simp [hx, idx_cel e, lsO_cel (i := 2) (j := 2) e rfl, idx_cel e2]
    generalize hq : (y + 104729 * (z + 1) + 1) * 48271 % 2147483647 = q
    have q0 : 0 ≤ q := by omega
    have q1 : q < 2147483647 := by omega
    have m1 : mulB q (q / 1009 + 69621) = true := mulB_l (by omega)
    simp [m1]
    generalize hp : q * (q / 1009 + 69621) % 2147483647 = p
    have p0 : 0 ≤ p := by omega
    have p1 : p < 2147483647 := by omega
    have m2 : mulB p (p / 2003 + 40692) = true := mulB_l (by omega)
    simp [m2, hm]
    exact k _ _ (Int.emod_nonneg _ (by omega)) (Int.emod_lt_of_pos _ hm) (WU.set hl _ _ _)
theorem one_sp {c : Nat} {l : List D} (hw : Well S c) (h0 : l ≠ []) (h1 : l.length < 1000) (k : ∀ x S1, x ∈ l → WU c S S1 → P x S1) : wp ((sem cfg.F g (n+2)).fn f__law_one [.cel c, .lst l] [] [] S) P := by
  refine run_fn (d := a__law_one) [.va (.cel c), .va (.lst l)] rfl rfl rfl ?_
  have hl : 0 < l.length := List.length_pos_iff.mpr h0
  simp [a__law_one]
  refine draw_sp hw (by omega) (divB_small (by omega) (by omega)) fun r S1 r0 r1 u => ?_
  obtain ⟨x, e, hx⟩ := atI_mem r0 r1
  simp [e]
  exact k x S1 hx u
theorem number_sp {c w : Nat} (hw : Well S c) (w1 : w ≤ 64) (k : ∀ r S1, 0 ≤ r → r < 2 ^ w → WU c S S1 → P (.int r) S1) : wp ((sem cfg.F g (n+2)).fn f__law_number [.cel c, .int w] [] [] S) P := by
  refine run_fn (d := a__law_number) [.va (.cel c), .va (.int w), .no, .no, .no] rfl rfl rfl ?_
  have hp : powB 1 w = true := powB_small (by omega) (by omega) (by decide)
  simp [a__law_number, hp]
  refine draw_sp hw (by omega) (divB_small (by omega) (by omega)) fun r S1 r0 r1 u => ?_
  simp
  refine draw_sp u.well (by omega) (divB_small (by omega) (by omega)) fun q S2 q0 q1 u2 => ?_
  simp
  refine draw_sp u2.well (by omega) (divB_small (by omega) (by omega)) fun t S3 t0 t1 u3 => ?_
  obtain ⟨v, e, hv⟩ := atI_ints (l := [0, 1, 1, 2, 3, 2 ^ w - 1, 2 ^ w / 2, r * 8589934592 + q]) t0 (by simpa using t1)
  simp at e
  have p0 : (0 : Int) < 2 ^ w := pow2_pos
  simp [e, p0]
  exact k _ S3 (Int.emod_nonneg _ (by omega)) (Int.emod_lt_of_pos _ p0) (u.trans (u2.trans u3))
theorem mul_bit {r M : Int} {p : Prop} [Decidable p] (h0 : 0 ≤ r) (h1 : r < M) : 0 ≤ r * (if p then 1 else 0) ∧ r * (if p then 1 else 0) < M := by
  by_cases h : p <;> simp [h] <;> omega
theorem form_sp {c w m : Nat} (hw : Well S c) (w1 : w ≤ 64) (m1 : m ≤ 100) (k : ∀ f S1, f.length = m + 1 → (∀ v ∈ f, 0 ≤ v ∧ v < 2 ^ w) → WU c S S1 → P (tI f) S1) : wp ((sem cfg.F g (n+3)).fn f__law_form [.cel c, .int w, .int m] [] [] S) P := by
  refine run_fn (d := a__law_form) [.va (.cel c), .va (.int w), .va (.int m), .no, .no] rfl rfl rfl ?_
  simp [a__law_form]
  refine number_sp hw w1 fun r S1 r0 r1 u => ?_
  simp
  refine draw_sp u.well (by omega) (divB_small (by omega) (by omega)) fun q S2 q0 q1 u2 => ?_
  simp [lstO]
  simp [rng_nat (show m < 1000000000 by omega)]
  refine wp_goForI _ (fun i ev S' => ∃ (f : List Int) (s : Sl), ev = [.va (.cel c), .va (.int w), .va (.int m), .ow (f.map D.int), s] ∧ f.length = i + 1 ∧ (∀ v ∈ f, 0 ≤ v ∧ v < 2 ^ w) ∧ WU c S S') (fun _ _ _ _ => rfl) ?_ ?_ ?_
  · rintro i d ev S3 hi ⟨f, s, rfl, hf, hv, u3⟩
    obtain ⟨hi2, rfl⟩ := rng_get hi
    simp
    refine number_sp u3.well w1 fun r S4 r0 r1 u4 => ?_
    simp
    refine draw_sp u4.well (by omega) (divB_small (by omega) (by omega)) fun q S5 q0 q1 u5 => ?_
    simp [show f.length < 16777216 by omega]
    refine ⟨f ++ [r * (if 0 < q then 1 else 0)], by simp, by simp [hf], ?_, u3.trans (u4.trans u5)⟩
    intro v hv'
    rcases List.mem_append.mp hv' with h | h
    · exact hv v h
    · cases List.mem_singleton.mp h; exact mul_bit r0 r1
  · rintro ev S3 ⟨f, s, rfl, hf, hv, u3⟩
    simp at hf
    simp [frzE]
    exact k f S3 hf hv u3
  · exact ⟨[r * (if q = 0 then 1 else 0)], .no, by simp, rfl, fun v hv => by cases List.mem_singleton.mp hv; exact mul_bit r0 r1, u.trans u2⟩
theorem row_sp {c w k : Nat} {names : List Str} {tot : Int} (hw : Well S c) (w1 : w ≤ 64) (hn : names ≠ []) (hn2 : names.length ≤ 6) (t0 : 0 < tot) (t1 : tot ≤ 25) (w0 : 1 ≤ w)
    (q : ∀ r S1, Row.ok names tot r → r.isRed (2 ^ w) → WU c S S1 → P r.d S1) : wp ((sem cfg.F g (n+4)).fn f__law_row [.cel c, .int w, .lst (names.map D.str), .int tot, .int k] [] [] S) P := by
  refine run_fn (d := a__law_row) [.va (.cel c), .va (.int w), .va (.lst (names.map D.str)), .va (.int tot), .va (.int k), .no, .no, .no] rfl rfl rfl ?_
  have hn3 : names.map D.str ≠ [] := by simpa using hn
  simp [a__law_row, t0]
  refine draw_sp hw t0 (divB_small t0 (by omega)) fun a S1 a0 a1 u1 => ?_
  simp
  refine draw_sp u1.well (by omega) (divB_small (by omega) (by omega)) fun b S2 b0 b1 u2 => ?_
  obtain ⟨v, e, hv⟩ := atI_ints (l := [((k : Int) + 1) % tot, ((k : Int) + 1) % tot, a]) b0 (by simpa using b1)
  simp at e
  have hv0 : 0 ≤ v ∧ v < tot := by
    simp at hv
    rcases hv with rfl | rfl
    · exact ⟨Int.emod_nonneg _ (by omega), Int.emod_lt_of_pos _ t0⟩
    · exact ⟨a0, a1⟩
  simp [e]
  refine one_sp u2.well (by simp) (by simp) fun x S3 hx u3 => ?_
  have u03 : WU c S S3 := u1.trans (u2.trans u3)
  have ones : ∀ m : Int, 0 < m → m < 1000 → divB m = true := fun m h1 h2 => divB_small h1 (by omega)
  have hlen : names.length ≤ 100 := by omega
  simp at hx
  have hlook : ∀ S4, WU c S S4 → (0 ≤ v ∧ v < tot) → P (Row.look v).d S4 := fun S4 u h => q (.look v) S4 h trivial u
  have hsay : ∀ S4, WU c S S4 → (0 ≤ v ∧ v < tot) → P (Row.say (List.replicate names.length 0 ++ [1]) v).d S4 := fun S4 u h => q (.say _ v) S4 ⟨by simp, h⟩ (fun z hz => by
    have p1 : (2 : Int) ^ 1 ≤ 2 ^ w := by
      rw [pow2_cast, pow2_cast]
      exact Int.ofNat_le.mpr (Nat.pow_le_pow_right (by decide) w0)
    simp at hz
    rcases hz with ⟨_, rfl⟩ | rfl
    · exact ⟨by omega, pow2_pos⟩
    · exact ⟨by omega, by omega⟩) u
  have hf : ∀ S4, WU c S S4 → ∀ {Q : D → Store → Prop}, (∀ f S1, f.length = names.length + 1 → (∀ v ∈ f, 0 ≤ v ∧ v < 2 ^ w) → WU c S S1 → Q (tI f) S1) → wp ((sem cfg.F g (n+3)).fn f__law_form [.cel c, .int w, .int names.length] [] [] S4) Q := fun S4 u Q h => form_sp u.well w1 hlen fun f S1 h1 h2 h3 => h f S1 h1 h2 (u.trans h3)
  have hx' := hx
  rcases hx with rfl | rfl | rfl | rfl | rfl | rfl
  · simp
    refine one_sp u3.well hn3 (by simp; omega) fun y S4 hy u4 => ?_
    obtain ⟨y, hy2, rfl⟩ := List.mem_map.mp hy
    simp
    refine hf _ (u03.trans u4) fun f S5 h1 h2 u5 => ?_
    simp
    exact q (.set y f v) S5 ⟨hy2, h1, hv0⟩ h2 u5
  · simp
    refine hf _ u03 fun f S5 h1 h2 u5 => ?_
    simp
    exact q (.say f v) S5 ⟨h1, hv0⟩ h2 u5
  · simp
    refine one_sp u3.well hn3 (by simp; omega) fun y S4 hy u4 => ?_
    obtain ⟨y, hy2, rfl⟩ := List.mem_map.mp hy
    simp
    exact q (.ask y v) S4 ⟨hy2, hv0⟩ trivial (u03.trans u4)
  · simp
    refine draw_sp u3.well (by omega) (ones _ (by omega) (by omega)) fun b S4 b0 b1 u4 => ?_
    obtain ⟨b, rfl⟩ := Int.eq_ofNat_of_zero_le b0
    simp [rng_nat (show b < 1000000000 by omega)]
    refine wp_goLcR (fun _ z => ∃ i : Int, z = .int i ∧ 0 ≤ i ∧ i < tot) (fun S' => WU c S S') (fun _ _ => rfl) _ _ (u03.trans u4) ?_ ?_
    · intro d hd S5 u5
      simp [wipeE]
      refine draw_sp u5.well t0 (ones _ t0 (by omega)) fun i S6 i0 i1 u6 => ?_
      simp
      exact ⟨⟨i0, i1⟩, u5.trans u6⟩
    · intro r S5 u5 hr hrs
      have hr' : r.length = b := by simpa using hr
      obtain ⟨l, rfl, hl⟩ : ∃ l : List Int, r = l.map D.int ∧ ∀ i ∈ l, 0 ≤ i ∧ i < tot := ints_of fun z hz => by
        obtain ⟨j, hj, rfl⟩ := List.mem_iff_getElem.mp hz
        exact hrs j _ _ (List.getElem?_eq_getElem (by simpa using (by omega : j < b))) (List.getElem?_eq_getElem hj)
      have hl2 : l.length ≤ 2 := by simp at hr'; omega
      simp [binD, lineB_small (show l.length ≤ 16777216 by omega), lineB_small (show 1 + l.length ≤ 16777216 by omega)]
      exact q (.choose (v :: l)) S5 ⟨by simp, by simp; omega, by simpa using ⟨hv0, hl⟩⟩ trivial u5
  · simp
    refine draw_sp u03.well (by omega) (ones _ (by omega) (by omega)) fun b S5 b0 b1 u5 => ?_
    by_cases hb : b = 0
    · simp [hb]
      exact hlook _ (u03.trans u5) hv0
    · simp [hb]
      rw [bin_rep (by omega)]
      simp [binD, lineB_small (show names.length + 1 ≤ 16777216 by omega)]
      have := hsay _ (u03.trans u5) hv0
      simpa [Row.d, tI] using this
  · simp
    refine draw_sp u3.well (by omega) (ones _ (by omega) (by omega)) fun b S4 b0 b1 u4 => ?_
    by_cases hb : b = 0
    · simp [hb]
      exact q .stop S4 trivial trivial (u03.trans u4)
    · simp [hb]
      refine draw_sp u4.well (by omega) (ones _ (by omega) (by omega)) fun b S5 b0 b1 u5 => ?_
      by_cases hb : b = 0
      · simp [hb]
        exact hlook _ ((u03.trans u4).trans u5) hv0
      · simp [hb]
        rw [bin_rep (by omega)]
        simp [binD, lineB_small (show names.length + 1 ≤ 16777216 by omega)]
        have := hsay _ ((u03.trans u4).trans u5) hv0
        simpa [Row.d, tI] using this
theorem rows_sp {c w : Nat} {names : List Str} {tot : Nat} (hw : Well S c) (w1 : w ≤ 64) (hn : names ≠ []) (hn2 : names.length ≤ 6) (t0 : 0 < tot) (t1 : tot ≤ 25) (w0 : 1 ≤ w)
    (q : ∀ (rs : List Row) (S1 : Store), rs.length = tot → (∀ r ∈ rs, Row.ok names tot r ∧ r.isRed (2 ^ w)) → WU c S S1 → P (.lst (rs.map Row.d)) S1) : wp ((sem cfg.F g (n+5)).fn f__law_rows [.cel c, .int w, .lst (names.map D.str), .int tot] [] [] S) P := by
  refine run_fn (d := a__law_rows) [.va (.cel c), .va (.int w), .va (.lst (names.map D.str)), .va (.int tot), .no] rfl rfl rfl ?_
  simp [a__law_rows, rng_nat (show tot < 1000000000 by omega)]
  refine wp_goLcR (fun _ z => ∃ r : Row, z = r.d ∧ Row.ok names tot r ∧ r.isRed (2 ^ w)) (fun S' => WU c S S') (fun _ _ => rfl) _ _ (WU.refl hw) ?_ ?_
  · intro d hd S5 u5
    obtain ⟨k, hk, rfl⟩ := List.mem_map.mp hd
    simp [wipeE]
    refine row_sp u5.well w1 hn hn2 (by omega) (by omega) w0 fun r S6 h1 h2 u6 => ?_
    simp
    exact ⟨⟨r, rfl, h1, h2⟩, u5.trans u6⟩
  · intro r S5 u5 hr hrs
    have hr' : r.length = tot := by simpa using hr
    obtain ⟨l, rfl, hl⟩ : ∃ l : List Row, r = l.map Row.d ∧ ∀ x ∈ l, Row.ok names tot x ∧ x.isRed (2 ^ w) := rows_of fun z hz => by
      obtain ⟨j, hj, rfl⟩ := List.mem_iff_getElem.mp hz
      exact hrs j _ _ (List.getElem?_eq_getElem (by simpa using (by omega : j < tot))) (List.getElem?_eq_getElem hj)
    simp at hr'
    simp [lineB_small (show l.length ≤ 16777216 by omega)]
    exact q l S5 hr' hl u5
theorem all_ints {f : List Int} {S : Store} {gd : Gd} {Q : List D → Store → Prop} {ev : Ev} (hg : gdB gd S = true) (he : 2 < ev.length) (k : Q (List.replicate f.length (.bl true)) S) :
    @wpI _ xp (goLc gd (lcTurn (sem cfg.F g (n+1)) (.call f_is_int [(.var 2)] [] []) (.nm 2) [] (wipeE ev [2])) (f.map D.int) S) ⟨Q⟩ := by
  refine wp_goLcP (fun _ => .bl true) S hg _ ?_ ?_
  · intro d hd
    obtain ⟨i, hi, rfl⟩ := List.mem_map.mp hd
    have h3 : getS ((wipeE ev [2]).set 2 (.va (.int i))) 2 = some (.int i) := by
      simp [getS, wipeE, he]
    simp [he, wipeE] at h3 ⊢
    simp only [h3, wpO_some]
    simp only [w_Es0]
    rw [is_int_sp rfl]
    simp [isInt]
  · have e : (f.map D.int).map (fun _ => D.bl true) = List.replicate f.length (.bl true) := by
      rw [List.map_map]; exact List.eq_replicate_iff.mpr ⟨by simp, fun b hb => by simp at hb; exact hb.2.symm⟩
    rw [e]; exact k
theorem bools_rep : ∀ m : Nat, boolsD (List.replicate m (.bl true)) = some (List.replicate m true)
  | 0 => rfl
  | m + 1 => by rw [List.replicate_succ, boolsD, bools_rep m]; rfl
theorem are_ints_sp {f : List Int} {m : Int} (hf : f.length ≤ 1000) (hm : (f.length : Int) = m) (k : P (.bl true) S) : wp ((sem cfg.F g (n+2)).fn f_are_ints [tI f, .int m] [] [] S) P := by
  subst hm
  refine run_fn (d := a_are_ints) [.va (tI f), .va (.int f.length), .no] rfl rfl rfl ?_
  simp [a_are_ints, tI, isD]
  refine all_ints (ev := [.va (tI f), .va (.int f.length), .no]) rfl (by simp) ?_
  simp [lineB_small (show f.length ≤ 16777216 by omega), biD, bools_rep]
  exact k
theorem is_num_t {k m : Int} (h : 0 ≤ k ∧ k < m) : isNum (.int k) m = true := by simp [isNum, h]
theorem is_set_row_sp {names : List Str} {m : Int} {x : Str} {f : List Int} {k : Int} (hn : names.length ≤ 6) (hr : Row.ok names m (.set x f k)) (q : P (.bl true) S) : wp ((sem cfg.F g (n+3)).fn f_is_set_row [(Row.set x f k).d, .tup (names.map D.str), .int m] [] [] S) P := by
  refine run_fn (d := a_is_set_row) [.va (Row.set x f k).d, .va (.tup (names.map D.str)), .va (.int m)] rfl rfl rfl ?_
  simp only [Row.ok] at hr
  simp [a_is_set_row, Row.d, inD_strs (l := names) (.inr rfl), hr.1]
  refine are_ints_sp (by omega) (by omega) ?_
  simp
  rw [is_number_of_sp rfl, is_num_t hr.2.2]
  simp
  exact q
theorem is_choose_row_sp {m : Int} {l : List Int} {names : List Str} (hr : Row.ok names m (.choose l)) (q : P (.bl true) S) : wp ((sem cfg.F g (n+3)).fn f_is_choose_row [(Row.choose l).d, .int m] [] [] S) P := by
  refine run_fn (d := a_is_choose_row) [.va (Row.choose l).d, .va (.int m), .no] rfl rfl rfl ?_
  simp only [Row.ok] at hr
  simp [a_is_choose_row, Row.d, tI, isD, show 0 < l.length by omega, hr.2.1, show (1 : Int) ≤ l.length by omega, show (l.length : Int) ≤ 6 by omega]
  refine wp_goLcP (fun _ => .bl true) S rfl _ ?_ ?_
  · intro d hd
    obtain ⟨i, hi, rfl⟩ := List.mem_map.mp hd
    simp [wipeE]
    rw [is_number_of_sp rfl, is_num_t (hr.2.2 i hi)]
    simp
  · have e : (l.map D.int).map (fun _ => D.bl true) = List.replicate l.length (.bl true) := by
      rw [List.map_map]; exact List.eq_replicate_iff.mpr ⟨by simp, fun b hb => by simp at hb; exact hb.2.symm⟩
    rw [e]
    simp [lineB_small (show l.length ≤ 16777216 by omega), biD, bools_rep]
    exact q
theorem is_row_sp {names : List Str} {m : Int} {r : Row} (hn : names.length ≤ 6) (hr : Row.ok names m r) (q : P (.bl true) S) : wp ((sem cfg.F g (n+4)).fn f_is_row [r.d, .tup (names.map D.str), .int m] [] [] S) P := by
  refine run_fn (d := a_is_row) [.va r.d, .va (.tup (names.map D.str)), .va (.int m)] rfl rfl rfl ?_
  simp only [a_is_row]
  cases r with
  | set x f k =>
    simp [Row.d, isD]
    exact is_set_row_sp hn hr (by simpa using q)
  | ask x k =>
    have hr' := hr
    simp only [Row.ok] at hr'
    simp [Row.d, isD, inD_strs (l := names) (.inr rfl), hr'.1]
    rw [is_number_of_sp rfl, is_num_t hr'.2]
    simpa using q
  | say f k =>
    have hr' := hr
    simp only [Row.ok] at hr'
    simp [Row.d, isD]
    refine are_ints_sp (by omega) (by omega) ?_
    simp
    rw [is_number_of_sp rfl, is_num_t hr'.2]
    simpa using q
  | look k =>
    have hr' := hr
    simp only [Row.ok] at hr'
    simp [Row.d, isD]
    rw [is_number_of_sp rfl, is_num_t hr']
    simpa using q
  | choose l =>
    simp [Row.d, isD]
    exact is_choose_row_sp hr (by simpa using q)
  | stop =>
    simp [Row.d, isD]
    rw [eqD_self (n := 1) (by decide +kernel) (by omega)]
    simpa using q
def letters : Str := "abcdefghijklmnopqrstuvwxyz"
def letterB (c : Nat) : Bool := !(Builtin.Str.occurrences letters ⟨#[c]⟩ 0 letters.length 1).isEmpty
def nameB (x : Str) : Bool := decide (1 ≤ x.length) && decide (x.length ≤ 8) && x.cps.toList.all letterB && PyData.strOk x
theorem is_name_sp {x : Str} (h : nameB x = true) (q : P (.bl true) S) : wp ((sem cfg.F g (n+1)).fn f_is_name [.str x] [] [] S) P := by
  unfold nameB at h
  simp only [Bool.and_eq_true, decide_eq_true_eq] at h
  obtain ⟨⟨⟨h1, h2⟩, h3⟩, h4⟩ := h
  refine run_fn (d := a_is_name) [.va (.str x), .no] rfl rfl rfl ?_
  have hl : lineB x.length = true := lineB_small (by omega)
  simp [a_is_name, isD, biD, hl, show (1 : Int) ≤ x.length by omega, show (x.length : Int) ≤ 8 by omega, seqD]
  refine wp_goLcP (fun _ => .bl true) S rfl _ ?_ ?_
  · intro d hd
    obtain ⟨c, hc, rfl⟩ := List.mem_map.mp hd
    have := List.all_eq_true.mp h3 c hc
    simp [wipeE, inD]
    unfold letterB letters at this
    simpa using this
  · have hx : x.cps.toList.length = x.length := by simp [Str.length]
    have e : (chars x).map (fun _ => D.bl true) = List.replicate x.length (.bl true) := by
      unfold chars
      rw [List.map_map]; exact List.eq_replicate_iff.mpr ⟨by simp [← hx], fun b hb => by simp at hb; exact hb.2.symm⟩
    rw [e]
    simp [lineB_small (show x.length ≤ 16777216 by omega), biD, bools_rep]
    exact q
structure NamesOk (names : List Str) : Prop where
  ne : names ≠ []
  len : names.length ≤ 6
  nm : ∀ x ∈ names, nameB x = true
  nd : names.Nodup
theorem NamesOk.str {names : List Str} (h : NamesOk names) : strsOk names := fun x hx => by
  have := h.nm x hx
  unfold nameB at this
  simp only [Bool.and_eq_true] at this
  exact this.2
theorem check_program_sp {w : Nat} {names : List Str} {rs : List Row} {V R : D} (w0 : 1 ≤ w) (w1 : w ≤ 64) (hn : NamesOk names) (hV : AsSeq S V (names.map D.str)) (hR : AsSeq S R (rs.map Row.d)) (r0 : rs ≠ []) (r1 : rs.length ≤ 25)
    (hr : ∀ r ∈ rs, Row.ok names rs.length r) (q : P .non S) : wp ((sem cfg.F g (n+5)).fn f_check_program [.int w, V, R] [] [] S) P := by
  refine run_fn (d := a_check_program) [.va (.int w), .va V, .va R, .no, .no, .no] rfl rfl rfl ?_
  have hn1 : 1 ≤ names.length := List.length_pos_iff.mpr hn.ne
  have hr1 : 1 ≤ rs.length := List.length_pos_iff.mpr r0
  simp only [a_check_program]
  simp
  rw [is_int_sp rfl]
  obtain ⟨gV, eV, gVb⟩ := hV.enm
  obtain ⟨gR, eR, gRb⟩ := hR.enm
  simp [isInt, show (1 : Int) ≤ w by omega, show (w : Int) ≤ 64 by omega, hV.ok, hV.isS, hV.len, show (1 : Int) ≤ names.length by omega, show (names.length : Int) ≤ 6 by have := hn.len; omega, eV]
  refine wp_goForI _ (fun k ev S' => S' = S ∧ ∃ a b c : Sl, ev = [.va (.int w), .va V, .va R, a, b, c]) (fun _ _ S' h => by rw [h.1]; exact gVb) ?_ ?_ ⟨rfl, _, _, _, rfl⟩
  · rintro k d ev S' hk ⟨rfl, a, b, c, rfl⟩
    obtain ⟨x, hx, rfl⟩ := enm_get hk
    rw [List.getElem?_map] at hx
    cases hx' : names[k]? with
    | none => rw [hx'] at hx; cases hx
    | some y =>
      rw [hx'] at hx
      cases hx
      simp
      refine is_name_sp (hn.nm y (List.mem_of_getElem? hx')) ?_
      obtain ⟨v, e1, e2⟩ := hV.slc none (some (k : Int))
      rw [cutL_take, ← List.map_take] at e2
      have hni : y ∉ names.take k := fun hm => by
        obtain ⟨j, hj, ej⟩ := List.mem_iff_getElem.mp hm
        have hk1 := (List.getElem?_eq_some_iff.mp hx').1
        have hk2 := (List.getElem?_eq_some_iff.mp hx').2
        have hj1 : j < k := by simp at hj; omega
        rw [List.getElem_take] at ej
        exact (List.pairwise_iff_getElem.mp hn.nd) j k (by omega) hk1 hj1 (by rw [ej, hk2])
      simp [e1, inD_strs e2, hni]
  · rintro ev S' ⟨rfl, a, b, c, rfl⟩
    simp [hR.ok, hR.isS, hR.len, show (1 : Int) ≤ rs.length by omega, show (rs.length : Int) ≤ 25 by omega, eR]
    refine wp_goForI _ (fun k ev S'' => S'' = S' ∧ ∃ a b c : Sl, ev = [.va (.int w), .va V, .va R, a, b, c]) (fun _ _ S' h => by rw [h.1]; exact gRb) ?_ ?_ ⟨rfl, _, _, _, rfl⟩
    · rintro k d ev S' hk ⟨rfl, a, b, c, rfl⟩
      obtain ⟨x, hx, rfl⟩ := enm_get hk
      rw [List.getElem?_map] at hx
      cases hx' : rs[k]? with
      | none => rw [hx'] at hx; cases hx
      | some y =>
        rw [hx'] at hx
        cases hx
        simp [hV.tuple, hR.len]
        refine is_row_sp hn.len (hr y (List.mem_of_getElem? hx')) ?_
        simp
    · rintro ev S' ⟨rfl, a, b, c, rfl⟩
      simpa using q
theorem reduced_sp {f : List Int} {M : Int} (hM : 0 < M) (hf : f.length ≤ 1000) (q : P (tI (redL M f)) S) : wp ((sem cfg.F g (n+1)).fn f_reduced [tI f, .int M] [] [] S) P := by
  refine run_fn (d := a_reduced) [.va (tI f), .va (.int M), .no] rfl rfl rfl ?_
  simp [a_reduced, tI]
  refine wp_goLcP (fun d => match d with | .int i => .int (i % M) | d => d) S rfl _ ?_ ?_
  · intro d hd
    obtain ⟨i, hi, rfl⟩ := List.mem_map.mp hd
    simp [wipeE, hM]
  · have e : (f.map D.int).map (fun d => match d with | .int i => .int (i % M) | d => d) = (redL M f).map D.int := by
      unfold redL; rw [List.map_map, List.map_map]; rfl
    rw [e]
    have : (redL M f).length ≤ 16777216 := by unfold redL; simp; omega
    simp [lineB_small this]
    exact q
theorem reduced_row_sp {r : Row} {M : Int} {names : List Str} {m : Int} (hM : 0 < M) (hn : names.length ≤ 6) (hr : r.ok names m) (q : P (r.red M).d S) : wp ((sem cfg.F g (n+2)).fn f_reduced_row [r.d, .int M] [] [] S) P := by
  refine run_fn (d := a_reduced_row) [.va r.d, .va (.int M)] rfl rfl rfl ?_
  simp only [a_reduced_row]
  cases r with
  | set x f k =>
    simp only [Row.ok] at hr
    simp [Row.d]
    refine reduced_sp hM (by omega) ?_
    simp
    exact q
  | say f k =>
    simp only [Row.ok] at hr
    simp [Row.d]
    refine reduced_sp hM (by omega) ?_
    simp
    exact q
  | ask x k => simp [Row.d]; exact q
  | look k => simp [Row.d]; exact q
  | choose l => simp [Row.d]; exact q
  | stop => simp [Row.d]; exact q
def pD (w : Nat) (names : List Str) (rs : List Row) : D := .ins 0 ["width", "variables", "rows"] [.int w, .tpf (names.map D.str), .tup (rs.map Row.d)]
theorem make_sp {w : Nat} {names : List Str} {rs : List Row} {R : D} (w0 : 1 ≤ w) (w1 : w ≤ 64) (hn : NamesOk names) (hR : ∀ c, AsSeq (S ++ [c]) R (rs.map Row.d)) (r0 : rs ≠ []) (r1 : rs.length ≤ 25)
    (hr : ∀ r ∈ rs, Row.ok names rs.length r) (q : P (pD w names (rs.map (Row.red (2 ^ w)))) (S ++ [.gone])) : wp (makeD (sem cfg.F g (n+6)) 0 f_Program___init__ [.int w, .lst (names.map D.str), R] S) P := by
  have key : wp ((sem cfg.F g (n+6)).fn f_Program___init__ [.cel S.length, .int w, .lst (names.map D.str), R] [] [] (S ++ [.ins 0 [] []])) fun r S2 => r = .non ∧ S2 = S ++ [.ins 0 ["width", "variables", "rows"] [.int w, .tpf (names.map D.str), .tup ((rs.map (Row.red (2 ^ w))).map Row.d)]] := by
    refine run_fn (d := a_Program___init__) [.va (.cel S.length), .va (.int w), .va (.lst (names.map D.str)), .va R, .no] rfl rfl rfl ?_
    simp [a_Program___init__]
    refine check_program_sp w0 w1 hn (.lst _) (hR _) r0 r1 hr ?_
    simp [insO, lstS, setF]
    obtain ⟨gR, eR, gRb⟩ := (hR (.ins 0 ["width", "variables"] [.int w, .tpf (names.map D.str)])).seq
    simp [eR]
    refine wp_goLcR (fun d z => ∃ r : Row, d = r.d ∧ z = (r.red (2 ^ w)).d) (fun S' => S' = S ++ [.ins 0 ["width", "variables"] [.int w, .tpf (names.map D.str)]]) (fun S' e => by rw [e]; exact gRb) _ _ rfl ?_ ?_
    · intro d hd S' e
      subst e
      obtain ⟨r, hr', rfl⟩ := List.mem_map.mp hd
      have hp : powB 1 w = true := powB_small (by omega) (by omega) (by decide)
      simp [wipeE, hp]
      refine reduced_row_sp pow2_pos hn.len (hr r hr') ?_
      simp
      exact ⟨r, rfl, rfl⟩
    · rintro l S' rfl hl hrs
      have e : l = (rs.map (Row.red (2 ^ w))).map Row.d := by
        refine List.ext_getElem? fun i => ?_
        rw [List.getElem?_map, List.getElem?_map]
        cases h : rs[i]? with
        | none =>
          have : rs.length ≤ i := by simpa using h
          simp at hl ⊢
          omega
        | some r =>
          have hi : i < l.length := by
            have := (List.getElem?_eq_some_iff.mp h).1
            simp at hl; omega
          obtain ⟨r', e1, e2⟩ := hrs i r.d l[i] (by rw [List.getElem?_map, h]; rfl) (List.getElem?_eq_getElem hi)
          rw [List.getElem?_eq_getElem hi, e2, ← Row.d_inj e1]; rfl
      subst e
      simp [lineB_small (show rs.length ≤ 16777216 by omega), insO, setF]
  unfold makeD
  refine wp_bind.mpr ?_
  refine key.imp fun r S2 ⟨h1, h2⟩ => ?_
  subst h1; subst h2
  simp
  simpa [pD] using q
@[simp] theorem att_w {S : Store} {w : Nat} {names : List Str} {rs : List Row} : attD S "width" (pD w names rs) = some (.int w) := by simp [attD, pD, getF]
@[simp] theorem att_v {S : Store} {w : Nat} {names : List Str} {rs : List Row} : attD S "variables" (pD w names rs) = some (.tpf (names.map D.str)) := by simp [attD, pD, getF]
@[simp] theorem att_r {S : Store} {w : Nat} {names : List Str} {rs : List Row} : attD S "rows" (pD w names rs) = some (.tup (rs.map Row.d)) := by simp [attD, pD, getF]
@[simp] theorem isIns_p {S : Store} {w : Nat} {names : List Str} {rs : List Row} : isInsB S 0 (pD w names rs) = true := rfl
@[simp] theorem pl_tpf {l : List D} : (D.tpf l).pl = .tup l := rfl
theorem mth_p {S : Store} {w : Nat} {names : List Str} {rs : List Row} {m : Str} (h : ([("width" : Str), "variables", "rows"].contains m) = false) : mthB S 0 m (pD w names rs) = true := by
  show (0 == 0 && !(List.contains [("width" : Str), "variables", "rows"] m)) = true
  rw [h]; rfl
@[simp] theorem mth_cr {S : Store} {w : Nat} {names : List Str} {rs : List Row} : mthB S 0 "check_row" (pD w names rs) = true := mth_p (by decide +kernel)
@[simp] theorem mth_nr {S : Store} {w : Nat} {names : List Str} {rs : List Row} : mthB S 0 "next_rows" (pD w names rs) = true := mth_p (by decide +kernel)
@[simp] theorem mth_sf {S : Store} {w : Nat} {names : List Str} {rs : List Row} : mthB S 0 "said_forms" (pD w names rs) = true := mth_p (by decide +kernel)
@[simp] theorem mth_ch {S : Store} {w : Nat} {names : List Str} {rs : List Row} : mthB S 0 "change" (pD w names rs) = true := mth_p (by decide +kernel)
theorem variable_form_sp {i m : Nat} (hm : m ≤ 100) (q : P (tI (unitF i m)) S) : wp ((sem cfg.F g (n+1)).fn f_variable_form [.int i, .int m] [] [] S) P := by
  refine run_fn (d := a_variable_form) [.va (.int i), .va (.int m), .no] rfl rfl rfl ?_
  have e : rngD [.int ((m : Int) + 1)] = some ((List.range (m + 1)).map fun k : Nat => D.int (k : Int)) := rng_nat (m := m + 1) (by omega)
  simp [a_variable_form, e]
  refine wp_goLcP (fun d => match d with | .int j => .int (if j = (i : Int) + 1 then 1 else 0) | d => d) S rfl _ ?_ ?_
  · intro d hd
    obtain ⟨j, hj, rfl⟩ := List.mem_map.mp hd
    simp [wipeE]
  · have e2 : ((List.range (m + 1)).map fun k : Nat => D.int (k : Int)).map (fun d => match d with | .int j => .int (if j = (i : Int) + 1 then 1 else 0) | d => d) = (unitF i m).map D.int := by
      unfold unitF
      rw [List.map_map, List.map_map]
      refine List.map_congr_left fun j _ => ?_
      simp only [Function.comp]
      by_cases h : j = i + 1
      · simp [h]
      · have h2 : ¬ ((j : Int) = (i : Int) + 1) := by omega
        simp [h, h2]
    rw [e2]
    simp [lineB_small (show (unitF i m).length ≤ 16777216 by simp [unitF]; omega)]
    exact q
def mulP (d : D) : D := match d with
  | .tup [.int a, .int b] => .int (a * b)
  | d => d
theorem intsD_map : ∀ l : List Int, intsD (l.map D.int) = some l
  | [] => rfl
  | a :: l => by rw [List.map_cons, intsD, intsD_map l]; rfl
theorem value_of_sp {f st : List Int} {M : Int} (hM : 0 < M) (h0 : f ≠ []) (hf : ∀ v ∈ f, v.natAbs < 2 ^ 64) (hl : st.length ≤ 1000) (q : P (.int (valF M f st)) S) : wp ((sem cfg.F g (n+1)).fn f_value_of [tI f, tI st, .int M] [] [] S) P := by
  refine run_fn (d := a_value_of) [.va (tI f), .va (tI st), .va (.int M), .no, .no] rfl rfl rfl ?_
  obtain ⟨a, f, rfl⟩ : ∃ a r, f = a :: r := by
    cases f with
    | nil => exact absurd rfl h0
    | cons a r => exact ⟨a, r, rfl⟩
  simp [a_value_of, tI, slcD, cutL_tail, zipD]
  refine wp_goLcP mulP S rfl _ ?_ ?_
  · intro d hd
    obtain ⟨⟨x, y⟩, hp, rfl⟩ := List.mem_map.mp hd
    obtain ⟨hx, hy⟩ := List.of_mem_zip hp
    obtain ⟨i, hi, rfl⟩ := List.mem_map.mp hx
    obtain ⟨j, hj, rfl⟩ := List.mem_map.mp hy
    have hm : mulB i j = true := mulB_l (hf i (List.mem_cons_of_mem _ hi))
    simp [wipeE, hm, mulP]
  · have e : (((f.map D.int).zip (st.map D.int)).map fun p => D.tup [p.1, p.2]).map mulP = ((f.zip st).map fun p => p.1 * p.2).map D.int := by
      rw [List.zip_map, List.map_map, List.map_map, List.map_map]
      rfl
    rw [e]
    have hl2 : min f.length st.length ≤ 16777216 := by omega
    simp [-List.map_map, lineB_small hl2, biD, intsD_map, hM]
    simp only [valF, List.headD_cons, List.tail_cons, ← dot_zip] at q
    exact q
theorem check_row_sp {w : Nat} {names : List Str} {rs : List Row} {k : Int} (h : 0 ≤ k ∧ k < rs.length) (q : P .non S) : wp ((sem cfg.F g (n+3)).fn f_Program_check_row [pD w names rs, .int k] [] [] S) P := by
  refine run_fn (d := a_Program_check_row) [.va (pD w names rs), .va (.int k)] rfl rfl rfl ?_
  simp [a_Program_check_row]
  rw [is_number_of_sp rfl, is_num_t (by simpa using h)]
  simp
  exact q
theorem rows_at {rs : List Row} {k : Int} {r : Row} (h0 : 0 ≤ k) (h : rs[k.toNat]? = some r) : atI (rs.map Row.d) k = some r.d := by
  have hk := (List.getElem?_eq_some_iff.mp h).1
  rw [atI_nat h0 (by simp; omega)]
  simp [h]
theorem next_rows_sp {w : Nat} {names : List Str} {rs : List Row} {k : Int} {r : Row} (h0 : 0 ≤ k) (h : rs[k.toNat]? = some r) (q : P (tI (nextsR r)) S) : wp ((sem cfg.F g (n+4)).fn f_Program_next_rows [pD w names rs, .int k] [] [] S) P := by
  refine run_fn (d := a_Program_next_rows) [.va (pD w names rs), .va (.int k), .no] rfl rfl rfl ?_
  have hk := (List.getElem?_eq_some_iff.mp h).1
  have e := rows_at h0 h
  simp [a_Program_next_rows]
  refine check_row_sp ⟨h0, by omega⟩ ?_
  cases r <;> simp [e, Row.d, nextsR, tI] at q ⊢ <;> exact q
theorem said_forms_sp {w : Nat} {names : List Str} {rs : List Row} {k : Int} {r : Row} (hn : names.length ≤ 6) (h0 : 0 ≤ k) (h : rs[k.toNat]? = some r) (q : P (.tup ((saidF names.length r).map tI)) S) : wp ((sem cfg.F g (n+4)).fn f_Program_said_forms [pD w names rs, .int k] [] [] S) P := by
  refine run_fn (d := a_Program_said_forms) [.va (pD w names rs), .va (.int k), .no] rfl rfl rfl ?_
  have hk := (List.getElem?_eq_some_iff.mp h).1
  have e := rows_at h0 h
  simp [a_Program_said_forms]
  refine check_row_sp ⟨h0, by omega⟩ ?_
  cases r <;> simp [e, Row.d] <;> first | (simp [saidF, tI] at q ⊢; exact q; done) | skip
  simp [rng_nat (show names.length < 1000000000 by omega)]
  refine wp_goLcR (fun d z => ∃ i : Nat, d = .int i ∧ z = tI (unitF i names.length)) (fun S' => S' = S) (fun _ _ => rfl) _ _ rfl ?_ ?_
  · rintro d hd S' rfl
    obtain ⟨i, hi, rfl⟩ := List.mem_map.mp hd
    simp [wipeE]
    refine variable_form_sp (by omega) ?_
    simp
    exact ⟨i, rfl, rfl⟩
  · rintro l S' rfl hl hrs
    have el : l = ((saidF names.length (.look 0)).map tI) := by
      simp only [saidF, List.map_map]
      refine List.ext_getElem (by simpa using hl) fun i h1 h2 => ?_
      obtain ⟨j, e1, e2⟩ := hrs i (.int i) l[i] (by rw [List.getElem?_map, List.getElem?_range (by simpa using h2)]; rfl) (List.getElem?_eq_getElem h1)
      have : i = j := by have := D.int.inj e1; omega
      subst this
      rw [e2]; simp
    subst el
    have hln : ((saidF names.length (.look 0)).map tI).length ≤ 16777216 := by simp [saidF]; omega
    simp [lineB_small hln]
    simp [saidF] at q ⊢
    simp [saidF, lineB_small (show names.length ≤ 16777216 by omega)]
    exact q
theorem strsD_map : ∀ l : List Str, ixoD.strsD (l.map D.str) = some l
  | [] => rfl
  | a :: l => by rw [List.map_cons, ixoD.strsD, strsD_map l]; rfl
theorem findIdx_idxOf {x : Str} : ∀ {l : List Str}, x ∈ l → l.findIdx? (fun y => decide (y = x)) = some (l.idxOf x)
  | [], h => by cases h
  | a :: l, h => by
    rw [List.findIdx?_cons, List.idxOf_cons]
    by_cases e : a = x
    · simp [e]
    · have hx : x ∈ l := by
        rcases List.mem_cons.mp h with z | z
        · exact absurd z.symm e
        · exact z
      have hb : (a == x) = false := by simpa using e
      simp [e, hb, findIdx_idxOf hx]
theorem ixo_t {x : Str} {names : List Str} (h : x ∈ names) : ixoD true (.tpf (names.map D.str)) (.str x) = some (.int (names.idxOf x)) := by
  simp only [ixoD, strsD_map, findIdx_idxOf h] <;> rfl
theorem ixo_f {x : Str} {names : List Str} (h : x ∈ names) : ixoD false (.lst (names.map D.str)) (.str x) = some (.int (names.idxOf x)) := by
  simp only [ixoD, strsD_map, findIdx_idxOf h] <;> rfl
theorem ixN_nat {n i : Nat} (h : i < n) : ixN n (i : Int) = some i := by
  unfold ixN
  simp [h]
theorem map_set_tI {l : List (List Int)} {i : Nat} {f : List Int} : (l.map tI).set i (tI f) = (l.set i f).map tI := by rw [List.map_set]
theorem tI_append {a b : List Int} (h : a.length + b.length ≤ 16777216) : binD .Add (tI a) (tI b) = some (tI (a ++ b)) := by
  simp only [tI, binD, List.length_map, lineB_small h, if_true, List.map_append]
theorem change_sp {w : Nat} {names : List Str} {rs : List Row} {k m : Int} {r : Row} (w1 : w ≤ 64) (hn : names.length ≤ 6) (h0 : 0 ≤ k) (h : rs[k.toNat]? = some r) (hr : r.ok names m) (q : P (.tup ((chgF (2 ^ w) names r).map tI)) S) : wp ((sem cfg.F g (n+4)).fn f_Program_change [pD w names rs, .int k] [] [] S) P := by
  refine run_fn (d := a_Program_change) [.va (pD w names rs), .va (.int k), .no, .no, .no] rfl rfl rfl ?_
  have hk := (List.getElem?_eq_some_iff.mp h).1
  have e := rows_at h0 h
  simp [a_Program_change]
  refine check_row_sp ⟨h0, by omega⟩ ?_
  simp [rng_nat (show names.length < 1000000000 by omega)]
  refine wp_goLcR (fun d z => ∃ i : Nat, d = .int i ∧ z = tI (unitF i names.length ++ [0])) (fun S' => S' = S) (fun _ _ => rfl) _ _ rfl ?_ ?_
  · rintro d hd S' rfl
    obtain ⟨i, hi, rfl⟩ := List.mem_map.mp hd
    simp [wipeE]
    refine variable_form_sp (by omega) ?_
    have e2 := tI_append (a := unitF i names.length) (b := [0]) (by simp [unitF]; omega)
    have e3 : D.tup [D.int 0] = tI [0] := rfl
    simp [e3, e2]
    exact ⟨i, rfl, rfl⟩
  · rintro l S' rfl hl hrs
    have el : l = (baseF names.length).map tI := by
      unfold baseF
      rw [List.map_map]
      refine List.ext_getElem (by simpa using hl) fun i h1 h2 => ?_
      obtain ⟨j, e1, e2⟩ := hrs i (.int i) l[i] (by rw [List.getElem?_map, List.getElem?_range (by simpa using h2)]; rfl) (List.getElem?_eq_getElem h1)
      have : i = j := by have := D.int.inj e1; omega
      subst this
      rw [e2]; simp
    subst el
    have hb : (baseF names.length).length = names.length := by simp [baseF]
    have hp : powB 1 w = true := powB_small (by omega) (by omega) (by decide)
    have p0 : (0 : Int) < 2 ^ w := pow2_pos
    have e3 : ∀ z : Int, D.tup [D.int z] = tI [z] := fun _ => rfl
    have hadd : ∀ f z, f.length = names.length + 1 → binD .Add (tI f) (tI [z]) = some (tI (f ++ [z])) := fun f z hf => tI_append (by simp; omega)
    have hrep : binD .Mult (tI [0]) (.int ((names.length : Int) + 1)) = some (tI (List.replicate (names.length + 1) 0)) := bin_rep (m := names.length + 1) (by omega)
    simp [lineB_small (show (baseF names.length).length ≤ 16777216 by omega)]
    cases r <;> simp [e, Row.d] <;> try (simp [frzE]; exact q)
    · rename_i x f k'
      simp only [Row.ok] at hr
      have hi : names.idxOf x < names.length := List.idxOf_lt_length_iff.mpr hr.1
      simp [e, Row.d, e3, hadd f 0 hr.2.1, ixB, ixo_t hr.1, ixN_nat (show names.idxOf x < (baseF names.length).length by omega), frzE]
      simp only [chgF, List.map_set] at q
      exact q
    · rename_i x k'
      simp only [Row.ok] at hr
      have hi : names.idxOf x < names.length := List.idxOf_lt_length_iff.mpr hr.1
      simp [e, Row.d, e3, hp, p0, hrep, hadd _ (1 % 2 ^ w) (show (List.replicate (names.length + 1) (0 : Int)).length = names.length + 1 by simp), ixB, ixo_t hr.1, ixN_nat (show names.idxOf x < (baseF names.length).length by omega), frzE]
      simp only [chgF, List.map_set] at q
      exact q
theorem is_pick_sp {num : Int} {r : Row} (h : okPick num r) (q : P (.bl true) S) : wp ((sem cfg.F g (n+2)).fn f_is_pick [r.d, .int num] [] [] S) P := by
  refine run_fn (d := a_is_pick) [.va r.d, .va (.int num)] rfl rfl rfl ?_
  simp [a_is_pick]
  rw [is_int_sp rfl]
  cases r <;> simp only [okPick] at h <;> simp [isInt, Row.d, tI, h] <;> exact q
theorem check_numbers_sp {N : D} {l : List D} (h : AsSeq S N l) (q : P .non S) : wp ((sem cfg.F g (n+1)).fn f_check_numbers [N] [] [] S) P := by
  refine run_fn (d := a_check_numbers) [.va N] rfl rfl rfl ?_
  simp [a_check_numbers, h.ok, h.isS]
  exact q
theorem checked_state_sp {w : Nat} {names : List Str} {rs : List Row} {N : D} {st : List Int} (w1 : w ≤ 64) (hN : AsSeq S N (st.map D.int)) (hl : st.length = names.length) (hn : names.length ≤ 6) (q : P (tI (redL (2 ^ w) st)) S) : wp ((sem cfg.F g (n+2)).fn f_checked_state [pD w names rs, N] [] [] S) P := by
  refine run_fn (d := a_checked_state) [.va (pD w names rs), .va N, .no, .no] rfl rfl rfl ?_
  obtain ⟨gV, eV, gVb⟩ := hN.enm
  obtain ⟨gS, eS, gSb⟩ := hN.seq
  simp [a_checked_state, hN.ok, hN.isS, hN.len, hl, eV]
  refine wp_goForI _ (fun k ev S' => S' = S ∧ ∃ a b : Sl, ev = [.va (pD w names rs), .va N, a, b]) (fun _ _ S' h => by rw [h.1]; exact gVb) ?_ ?_ ⟨rfl, _, _, rfl⟩
  · rintro k d ev S' hk ⟨rfl, a, b, rfl⟩
    obtain ⟨x, hx, rfl⟩ := enm_get hk
    rw [List.getElem?_map] at hx
    obtain ⟨i, hi, rfl⟩ := Option.map_eq_some_iff.mp hx
    simp
    rw [is_int_sp rfl]
    simp [isInt]
  · rintro ev S' ⟨rfl, a, b, rfl⟩
    have p0 : (0 : Int) < 2 ^ w := pow2_pos
    have hp : powB 1 w = true := powB_small (by omega) (by omega) (by decide)
    simp [eS]
    refine wp_goLcP (fun d => match d with | .int i => .int (i % 2 ^ w) | d => d) S' gSb _ ?_ ?_
    · intro d hd
      obtain ⟨i, hi, rfl⟩ := List.mem_map.mp hd
      simp [wipeE, hp, p0]
    · have e : (st.map D.int).map (fun d => match d with | .int i => .int (i % 2 ^ w) | d => d) = (redL (2 ^ w) st).map D.int := by
        unfold redL; rw [List.map_map, List.map_map]; rfl
      rw [e]
      have : (redL (2 ^ w) st).length ≤ 16777216 := by unfold redL; simp; omega
      simp [lineB_small this]
      exact q
theorem red_abs {M v : Int} (h0 : 0 ≤ v) (h1 : v < M) (hM : M ≤ 18446744073709551616) : v.natAbs < 2 ^ 64 := by omega
theorem unitF_abs {i m : Nat} : ∀ v ∈ unitF i m, v.natAbs < 2 ^ 64 := by
  intro v hv
  unfold unitF at hv
  obtain ⟨j, _, rfl⟩ := List.mem_map.mp hv
  split <;> decide
theorem saidF_ok {w m : Nat} {r : Row} {names : List Str} {tot : Int} (w1 : w ≤ 64) (hm : names.length = m) (hr : r.ok names tot) (hd : r.isRed (2 ^ w)) : ∀ f ∈ saidF m r, f ≠ [] ∧ ∀ v ∈ f, v.natAbs < 2 ^ 64 := by
  intro f hf
  have p0 := pow2_le w1
  cases r <;> simp only [saidF] at hf <;> first | (simp at hf; done) | skip
  · cases List.mem_singleton.mp hf
    simp only [Row.ok, Row.isRed] at hr hd
    exact ⟨by intro z; subst z; simp at hr, fun v hv => red_abs (hd v hv).1 (hd v hv).2 p0⟩
  · obtain ⟨i, _, rfl⟩ := List.mem_map.mp hf
    exact ⟨by simp [unitF], unitF_abs⟩
theorem chgF_ok {w : Nat} {r : Row} {names : List Str} {tot : Int} (w1 : w ≤ 64) (hr : r.ok names tot) (hd : r.isRed (2 ^ w)) : ∀ f ∈ chgF (2 ^ w) names r, f ≠ [] ∧ ∀ v ∈ f, v.natAbs < 2 ^ 64 := by
  have p0 := pow2_le w1
  have p1 : (0 : Int) < 2 ^ w := pow2_pos
  have hb : ∀ f ∈ baseF names.length, f ≠ [] ∧ ∀ v ∈ f, v.natAbs < 2 ^ 64 := fun f hf => by
    unfold baseF at hf
    obtain ⟨i, _, rfl⟩ := List.mem_map.mp hf
    refine ⟨by simp, fun v hv => ?_⟩
    rcases List.mem_append.mp hv with z | z
    · exact unitF_abs v z
    · cases List.mem_singleton.mp z; decide
  have hs : ∀ (i : Nat) (u : List Int), (u ≠ [] ∧ ∀ v ∈ u, v.natAbs < 2 ^ 64) → ∀ f ∈ (baseF names.length).set i u, f ≠ [] ∧ ∀ v ∈ f, v.natAbs < 2 ^ 64 := fun i u hu f hf => by
    rcases List.mem_or_eq_of_mem_set hf with z | z
    · exact hb f z
    · subst z; exact hu
  cases r <;> simp only [chgF] <;> first | exact hb | skip
  · rename_i x f k
    refine hs _ _ ⟨by simp, fun v hv => ?_⟩
    rcases List.mem_append.mp hv with z | z
    · exact red_abs (hd v z).1 (hd v z).2 p0
    · cases List.mem_singleton.mp z; decide
  · refine hs _ _ ⟨by simp, fun v hv => ?_⟩
    rcases List.mem_append.mp hv with z | z
    · rw [(List.mem_replicate.mp z).2]; decide
    · cases List.mem_singleton.mp z
      have := Int.emod_nonneg 1 (show (2 : Int) ^ w ≠ 0 by omega)
      have := Int.emod_lt_of_pos 1 p1
      omega
/-- a value that does not fit a row -/
def badR (r : Row) : D → Prop
  | .int num => ¬ okPick num r
  | d => isInt d = false
theorem is_pick_bad {x : D} {r : Row} (hx : okI S x = true) (hb : badR r x) (q : P (.bl false) S) : wp ((sem cfg.F g (n+2)).fn f_is_pick [r.d, x] [] [] S) P := by
  refine run_fn (d := a_is_pick) [.va r.d, .va x] rfl rfl rfl ?_
  have other : isInt x = false → @wpI _ xp (evTs (sem cfg.F g (n+1)) g a_is_pick.body [.va r.d, .va x] S) ⟨fin P⟩ := fun hi => by
    simp [a_is_pick]
    rw [is_int_sp hx, hi]
    simp
    exact q
  cases x with
  | int num =>
    simp [a_is_pick]
    rw [is_int_sp rfl]
    cases r <;> simp only [badR, okPick] at hb <;> simp [isInt, Row.d, tI, hb]
    all_goals first | exact q | skip
    · exact absurd trivial hb
    · rename_i l
      by_cases h0 : 0 ≤ num
      · have h1 : ¬ num < (l.length : Int) := fun z => hb ⟨h0, z⟩
        simp [h0, h1]; exact q
      · simp [h0]; exact q
  | _ => exact other hb
theorem walked_g {w : Nat} {names : List Str} {rs : List Row} {k : Int} {st nums : List Int} {tl : List D} {N : D} (w0 : 1 ≤ w) (w1 : w ≤ 64) (hn : names.length ≤ 6) (H : RowsOk (2 ^ w) names rs) (k0 : 0 ≤ k) (k1 : k < rs.length) (hs : StOk (2 ^ w) names.length st) (hN : AsSeq S N (nums.map D.int ++ tl)) (hl : nums.length ≤ 100000) (ho : okR rs k nums)
    (ht : tl = [] ∨ ∃ x r, tl = x :: r ∧ (∀ T, okI (S ++ T) x = true) ∧ badR (rowAt rs (goR (2 ^ w) names rs k st nums).1) x ∧ ∀ T, xp.x ⟨3, ["index"], [.int nums.length]⟩ (S ++ T))
    (q : tl = [] → P (.tup [.int (goR (2 ^ w) names rs k st nums).1, tI (goR (2 ^ w) names rs k st nums).2.1, .cel S.length]) (S ++ [.lst ((goR (2 ^ w) names rs k st nums).2.2.map D.int)])) : wp ((sem cfg.F g (n+5)).fn f_walked [pD w names rs, .int k, tI st, N] [] [] S) P := by
  refine run_fn (d := a_walked) [.va (pD w names rs), .va (.int k), .va (tI st), .va N, .no, .no, .no, .no, .no, .no] rfl rfl rfl ?_
  have p0 : (0 : Int) < 2 ^ w := pow2_pos
  have p1 : (1 : Int) < 2 ^ w := by
    have : (2 : Int) ^ 1 ≤ 2 ^ w := by rw [pow2_cast, pow2_cast]; exact Int.ofNat_le.mpr (Nat.pow_le_pow_right (by decide) w0)
    omega
  have hp : powB 1 w = true := powB_small (by omega) (by omega) (by decide)
  obtain ⟨gd, eG⟩ := hN.enmG
  simp [a_walked, hp, (eG _).1]
  refine wp_goForI _ (fun i ev S' => i ≤ nums.length ∧ ∃ a b c d : Sl, ev = [.va (pD w names rs), .va (.int (goR (2 ^ w) names rs k st (nums.take i)).1), .va (tI (goR (2 ^ w) names rs k st (nums.take i)).2.1), .va N, .va (.int (2 ^ w)), .va (.cel S.length), a, b, c, d] ∧ S' = S ++ [.lst ((goR (2 ^ w) names rs k st (nums.take i)).2.2.map D.int)]) (fun _ _ S' ⟨_, _, _, _, _, _, e⟩ => by rw [e]; exact (eG _).2) ?_ ?_ ?_
  · rintro i d ev S' hi ⟨hil0, a, b, c, e, rfl, rfl⟩
    obtain ⟨z, hz, rfl⟩ := enm_get hi
    by_cases hil : i < nums.length
    rotate_left
    · have hie : i = nums.length := by omega
      subst hie
      rcases ht with rfl | ⟨x, r, rfl, x1, x2, x3⟩
      · simp at hz
      · rw [List.getElem?_append_right (by simp)] at hz
        simp at hz
        subst hz
        rw [List.take_length]
        obtain ⟨⟨g1, g2⟩, g3, g4, g5⟩ := goR_ok H p0 nums k st k0 k1 hs ho
        generalize goR (2 ^ w) names rs k st nums = R at *
        obtain ⟨ki, si, sd⟩ := R
        obtain ⟨r1, r2, r3⟩ := H.at g1 g2
        have er := rows_at g1 r1
        simp [er]
        refine is_pick_bad (x1 _) x2 ?_
        simp
        exact x3 _
    rw [List.getElem?_append_left (by simpa using hil), List.getElem?_map] at hz
    obtain ⟨x, hx, rfl⟩ := Option.map_eq_some_iff.mp hz
    have split : nums = nums.take i ++ x :: nums.drop (i + 1) := by
      have := List.drop_eq_getElem_cons hil
      rw [(List.getElem?_eq_some_iff.mp hx).2] at this
      rw [← this, List.take_append_drop]
    have ho' := ho
    rw [split] at ho'
    obtain ⟨o1, o2⟩ := (okR_append (M := 2 ^ w) (names := names) _ _ k st).mp ho'
    have etk : nums.take (i + 1) = nums.take i ++ [x] := by rw [List.take_succ, hx]; rfl
    obtain ⟨⟨g1, g2⟩, g3, g4, g5⟩ := goR_ok H p0 (nums.take i) k st k0 k1 hs o1
    rw [etk, goR_append]
    have hsl : (goR (2 ^ w) names rs k st (nums.take i)).2.2.length ≤ 16000000 := by
      have h1 : (nums.take i).length ≤ 100000 := by simp; omega
      have h2 : (nums.take i).length * (names.length + 1) ≤ 100000 * 7 := Nat.mul_le_mul h1 (by omega)
      omega
    generalize goR (2 ^ w) names rs k st (nums.take i) = R at *
    obtain ⟨ki, si, sd⟩ := R
    simp only [okR, goR] at *
    obtain ⟨r1, r2, r3⟩ := H.at g1 g2
    have er := rows_at g1 r1
    simp [er]
    refine is_pick_sp o2.1 ?_
    simp
    refine said_forms_sp hn g1 r1 ?_
    simp
    refine wp_goLcM tI (fun f => .int (valF (2 ^ w) f si)) _ rfl _ ?_ ?_
    · intro f hf
      obtain ⟨f1, f2⟩ := saidF_ok w1 rfl r2 r3 f hf
      simp [wipeE]
      refine value_of_sp p0 f1 f2 (by rw [g3.1]; omega) ?_
      simp
    have esd : (saidF names.length (rowAt rs ki)).map (fun f => D.int (valF (2 ^ w) f si)) = (saidR (2 ^ w) si (rowAt rs ki)).map D.int := by
      rw [← said_val g3, List.map_map]; rfl
    rw [esd]
    have hsr : (saidR (2 ^ w) si (rowAt rs ki)).length ≤ 6 := by
      cases rowAt rs ki <;> simp [saidR]
      rw [g3.1]; exact hn
    simp [lineB_small (show (saidR (2 ^ w) si (rowAt rs ki)).length ≤ 16777216 by omega), lineB_small (show sd.length + (saidR (2 ^ w) si (rowAt rs ki)).length ≤ 16777216 by omega)]
    refine change_sp w1 hn g1 r1 r2 ?_
    simp
    refine wp_goLcM tI (fun f => .int (valF (2 ^ w) f (si ++ [x]))) _ rfl _ ?_ ?_
    · intro f hf
      obtain ⟨f1, f2⟩ := chgF_ok w1 r2 r3 f hf
      have e3 : D.tup [D.int x] = tI [x] := rfl
      have e4 := tI_append (a := si) (b := [x]) (by rw [g3.1]; simp; omega)
      simp [wipeE, e3, e4]
      refine value_of_sp p0 f1 f2 (by simp [g3.1]; omega) ?_
      simp
    have est : (chgF (2 ^ w) names (rowAt rs ki)).map (fun f => D.int (valF (2 ^ w) f (si ++ [x]))) = (stR (2 ^ w) names si x (rowAt rs ki)).map D.int := by
      rw [← chg_val g3 p1 r2, List.map_map]; rfl
    rw [est]
    have hst := (stR_ok (r := rowAt rs ki) (num := x) g3 p0).1
    simp [lineB_small (show (stR (2 ^ w) names si x (rowAt rs ki)).length ≤ 16777216 by omega)]
    refine next_rows_sp g1 r1 ?_
    simp [er]
    have hpk := o2.1
    cases hrow : rowAt rs ki <;> rw [hrow] at hpk <;> simp only [okPick] at hpk <;> simp [Row.d, nextsR, nextR, stR, saidR, tI, goR, hrow, Nat.succ_le_of_lt hil, hil]
    rename_i l
    have hxl : x.toNat < l.length := by omega
    rw [atI_nat hpk.1 (by simpa using hpk.2)]
    simp [List.getElem?_eq_getElem hxl, List.getD_eq_getElem?_getD, goR, hrow, nextR, stR, saidR, tI, hil]
    exact hil
  · rintro ev S' ⟨hil0, a, b, c, d, rfl, rfl⟩
    simp at hil0
    have htl : tl = [] := List.eq_nil_of_length_eq_zero (by omega)
    have q := q htl
    have et : List.take (List.map D.int nums ++ tl).length nums = nums := by rw [htl]; simp
    simp only [enm_len] at *
    simp only [et]
    simp
    exact q
  · exact ⟨by omega, _, _, _, _, rfl, rfl⟩
theorem walked_sp {w : Nat} {names : List Str} {rs : List Row} {k : Int} {st nums : List Int} {N : D} (w0 : 1 ≤ w) (w1 : w ≤ 64) (hn : names.length ≤ 6) (H : RowsOk (2 ^ w) names rs) (k0 : 0 ≤ k) (k1 : k < rs.length) (hs : StOk (2 ^ w) names.length st) (hN : AsSeq S N (nums.map D.int)) (hl : nums.length ≤ 100000) (ho : okR rs k nums)
    (q : P (.tup [.int (goR (2 ^ w) names rs k st nums).1, tI (goR (2 ^ w) names rs k st nums).2.1, .cel S.length]) (S ++ [.lst ((goR (2 ^ w) names rs k st nums).2.2.map D.int)])) : wp ((sem cfg.F g (n+5)).fn f_walked [pD w names rs, .int k, tI st, N] [] [] S) P :=
  walked_g (tl := []) w0 w1 hn H k0 k1 hs (by simpa using hN) hl ho (.inl rfl) fun _ => q
theorem walked_bad {w : Nat} {names : List Str} {rs : List Row} {k : Int} {st nums : List Int} {x : D} {r : List D} {N : D} (w0 : 1 ≤ w) (w1 : w ≤ 64) (hn : names.length ≤ 6) (H : RowsOk (2 ^ w) names rs) (k0 : 0 ≤ k) (k1 : k < rs.length) (hs : StOk (2 ^ w) names.length st) (hN : AsSeq S N (nums.map D.int ++ x :: r)) (hl : nums.length ≤ 100000) (ho : okR rs k nums)
    (x1 : ∀ T, okI (S ++ T) x = true) (x2 : badR (rowAt rs (goR (2 ^ w) names rs k st nums).1) x) (q : ∀ T, xp.x ⟨3, ["index"], [.int nums.length]⟩ (S ++ T)) : wp ((sem cfg.F g (n+5)).fn f_walked [pD w names rs, .int k, tI st, N] [] [] S) P :=
  walked_g (tl := x :: r) w0 w1 hn H k0 k1 hs hN hl ho (.inr ⟨x, r, rfl, x1, x2, q⟩) fun e => nomatch e
theorem zeros_ok {w : Nat} {m : Nat} : StOk (2 ^ w) m (List.replicate m 0) := ⟨by simp, fun v hv => by rw [(List.mem_replicate.mp hv).2]; exact ⟨by omega, pow2_pos⟩⟩
theorem go_on_sp {w : Nat} {names : List Str} {rs : List Row} {k : Int} {st nums : List Int} {N T : D} (w0 : 1 ≤ w) (w1 : w ≤ 64) (hn : names.length ≤ 6) (H : RowsOk (2 ^ w) names rs) (k0 : 0 ≤ k) (k1 : k < rs.length) (hT : AsSeq S T (st.map D.int)) (ht : st.length = names.length) (hN : AsSeq S N (nums.map D.int)) (hl : nums.length ≤ 100000) (ho : okR rs k nums)
    (q : P (.tup [.int (goR (2 ^ w) names rs k (redL (2 ^ w) st) nums).1, tI (goR (2 ^ w) names rs k (redL (2 ^ w) st) nums).2.1, .cel S.length]) (S ++ [.lst ((goR (2 ^ w) names rs k (redL (2 ^ w) st) nums).2.2.map D.int)])) : wp ((sem cfg.F g (n+6)).fn f_go_on [pD w names rs, .int k, T, N] [] [] S) P := by
  refine run_fn (d := a_go_on) [.va (pD w names rs), .va (.int k), .va T, .va N] rfl rfl rfl ?_
  simp [a_go_on]
  refine check_row_sp ⟨k0, k1⟩ ?_
  simp
  refine checked_state_sp w1 hT ht hn ?_
  simp
  refine check_numbers_sp hN ?_
  simp
  refine walked_sp w0 w1 hn H k0 k1 ⟨by simp [redL, ht], fun v hv => ?_⟩ hN hl ho (by simpa using q)
  unfold redL at hv
  obtain ⟨i, _, rfl⟩ := List.mem_map.mp hv
  exact ⟨Int.emod_nonneg _ (Int.ne_of_gt pow2_pos), Int.emod_lt_of_pos _ pow2_pos⟩
theorem check_none {N : D} (h1 : okI S N = true) (h2 : isD S N .list = false) (h3 : isD S N .tuple = false) (q : xp.x ⟨3, ["index"], [.int (-1)]⟩ S) : wp ((sem cfg.F g (n+1)).fn f_check_numbers [N] [] [] S) P := by
  refine run_fn (d := a_check_numbers) [.va N] rfl rfl rfl ?_
  simp [a_check_numbers, h1, h2, h3]
  exact q
theorem go_on_none {w : Nat} {names : List Str} {rs : List Row} {k : Int} {st : List Int} {N T : D} (w1 : w ≤ 64) (hn : names.length ≤ 6) (k0 : 0 ≤ k) (k1 : k < rs.length) (hT : AsSeq S T (st.map D.int)) (ht : st.length = names.length) (h1 : okI S N = true) (h2 : isD S N .list = false) (h3 : isD S N .tuple = false) (q : xp.x ⟨3, ["index"], [.int (-1)]⟩ S) : wp ((sem cfg.F g (n+6)).fn f_go_on [pD w names rs, .int k, T, N] [] [] S) P := by
  refine run_fn (d := a_go_on) [.va (pD w names rs), .va (.int k), .va T, .va N] rfl rfl rfl ?_
  simp [a_go_on]
  refine check_row_sp ⟨k0, k1⟩ ?_
  simp
  refine checked_state_sp w1 hT ht hn ?_
  simp
  exact check_none h1 h2 h3 q
theorem check_row_bad {w : Nat} {names : List Str} {rs : List Row} {x : D} (h : okI S x = true) (h2 : isNum x rs.length = false) (q : xp.x ⟨1, ["row"], [x]⟩ S) : wp ((sem cfg.F g (n+3)).fn f_Program_check_row [pD w names rs, x] [] [] S) P := by
  refine run_fn (d := a_Program_check_row) [.va (pD w names rs), .va x] rfl rfl rfl ?_
  simp [a_Program_check_row]
  rw [is_number_of_sp h, h2]
  simp
  exact q
theorem getitem_bad {w : Nat} {names : List Str} {rs : List Row} {x : D} (h : okI S x = true) (h2 : isNum x rs.length = false) (q : xp.x ⟨1, ["row"], [x]⟩ S) : wp ((sem cfg.F g (n+4)).fn f_Program___getitem__ [pD w names rs, x] [] [] S) P := by
  refine run_fn (d := a_Program___getitem__) [.va (pD w names rs), .va x] rfl rfl rfl ?_
  simp [a_Program___getitem__]
  exact check_row_bad h h2 q
theorem go_on_row {w : Nat} {names : List Str} {rs : List Row} {x T N : D} (h : okI S x = true) (h2 : isNum x rs.length = false) (q : xp.x ⟨1, ["row"], [x]⟩ S) : wp ((sem cfg.F g (n+6)).fn f_go_on [pD w names rs, x, T, N] [] [] S) P := by
  refine run_fn (d := a_go_on) [.va (pD w names rs), .va x, .va T, .va N] rfl rfl rfl ?_
  simp [a_go_on]
  exact check_row_bad h h2 q
/-- what is no list or tuple of so many -/
def noSt (S : Store) (m : Nat) (x : D) : Prop := (okI S x = true ∧ isD S x .list = false ∧ isD S x .tuple = false) ∨ ∃ l, AsSeq S x l ∧ l.length ≠ m
theorem checked_state_none {w : Nat} {names : List Str} {rs : List Row} {N : D} (h : noSt S names.length N) (q : xp.x ⟨2, ["index"], [.int (-1)]⟩ S) : wp ((sem cfg.F g (n+2)).fn f_checked_state [pD w names rs, N] [] [] S) P := by
  refine run_fn (d := a_checked_state) [.va (pD w names rs), .va N, .no, .no] rfl rfl rfl ?_
  rcases h with ⟨h1, h2, h3⟩ | ⟨l, hN, hl⟩
  · simp [a_checked_state, h1, h2, h3]
    exact q
  · have hl2 : ¬ ((l.length : Int) = names.length) := by omega
    simp [a_checked_state, hN.ok, hN.isS, hN.len, hl2]
    exact q
theorem checked_state_bad {w : Nat} {names : List Str} {rs : List Row} {N x : D} {st : List Int} {r : List D} (hN : AsSeq S N (st.map D.int ++ x :: r)) (hl : (st.map D.int ++ x :: r).length = names.length) (h1 : okI S x = true) (h2 : isInt x = false) (q : xp.x ⟨2, ["index"], [.int st.length]⟩ S) : wp ((sem cfg.F g (n+2)).fn f_checked_state [pD w names rs, N] [] [] S) P := by
  refine run_fn (d := a_checked_state) [.va (pD w names rs), .va N, .no, .no] rfl rfl rfl ?_
  obtain ⟨gV, eV, gVb⟩ := hN.enm
  have hlen := hN.len
  rw [hl] at hlen
  simp [a_checked_state, hN.ok, hN.isS, hlen, eV]
  refine wp_goForI _ (fun k ev S' => k ≤ st.length ∧ S' = S ∧ ∃ a b : Sl, ev = [.va (pD w names rs), .va N, a, b]) (fun _ _ S' h => by rw [h.2.1]; exact gVb) ?_ ?_ ⟨by omega, rfl, _, _, rfl⟩
  · rintro k d ev S' hk ⟨hk1, rfl, a, b, rfl⟩
    obtain ⟨y, hy, rfl⟩ := enm_get hk
    by_cases he : k < st.length
    · rw [List.getElem?_append_left (by simpa using he), List.getElem?_map] at hy
      obtain ⟨i, hi, rfl⟩ := Option.map_eq_some_iff.mp hy
      simp
      rw [is_int_sp rfl]
      simp [isInt]
      omega
    · obtain rfl : k = st.length := by omega
      rw [List.getElem?_append_right (by simp)] at hy
      simp at hy
      subst hy
      simp
      rw [is_int_sp h1, h2]
      simp
      exact q
  · rintro ev S' ⟨hk, rfl, a, b, rfl⟩
    simp at hk
    omega
theorem go_on_state {w : Nat} {names : List Str} {rs : List Row} {k : Int} {N T : D} (k0 : 0 ≤ k) (k1 : k < rs.length) (h : noSt S names.length T) (q : xp.x ⟨2, ["index"], [.int (-1)]⟩ S) : wp ((sem cfg.F g (n+6)).fn f_go_on [pD w names rs, .int k, T, N] [] [] S) P := by
  refine run_fn (d := a_go_on) [.va (pD w names rs), .va (.int k), .va T, .va N] rfl rfl rfl ?_
  simp [a_go_on]
  refine check_row_sp ⟨k0, k1⟩ ?_
  simp
  exact checked_state_none h q
theorem go_on_item {w : Nat} {names : List Str} {rs : List Row} {k : Int} {N T x : D} {st : List Int} {r : List D} (k0 : 0 ≤ k) (k1 : k < rs.length) (hN : AsSeq S T (st.map D.int ++ x :: r)) (hl : (st.map D.int ++ x :: r).length = names.length) (h1 : okI S x = true) (h2 : isInt x = false) (q : xp.x ⟨2, ["index"], [.int st.length]⟩ S) : wp ((sem cfg.F g (n+6)).fn f_go_on [pD w names rs, .int k, T, N] [] [] S) P := by
  refine run_fn (d := a_go_on) [.va (pD w names rs), .va (.int k), .va T, .va N] rfl rfl rfl ?_
  simp [a_go_on]
  refine check_row_sp ⟨k0, k1⟩ ?_
  simp
  exact checked_state_bad hN hl h1 h2 q
def allNames : List Str := ["y", "x", "zed", "ab", "q"]
theorem names_ok {k : Nat} : NamesOk (allNames.take (k + 1)) :=
  ⟨by simp [allNames], Nat.le_trans (List.length_take_le' _ _) (by decide), fun x hx => (show ∀ x ∈ allNames, nameB x = true by decide +kernel) x (List.mem_of_mem_take hx), (show allNames.Nodup by decide +kernel).sublist (List.take_sublist _ _)⟩
end K03

set_option Elab.async false
set_option linter.all false
set_option maxRecDepth 100000
set_option maxHeartbeats 0
namespace K03
open PySem PySem.W PyProof.Rows
abbrev R : PySem.W.OpenRow := PySem.W.OpenLaw.row PySem.Challenge.rw_leastkeep_k03_rows_by_their_numbers
abbrev hk : PySem.W.Hook := cfg.hook 5
def ob (s : PySem.W.SharedT) : He.AlD := cfg.obsG 5 (HandSHeadRun.getT s)
theorem ob_eq (s : PySem.W.SharedT) : ob s = hk.obs s.abs := Mp.Cfg.obsG_eq (HandSHeadRun.getT_eq s)
def loose : List Str := (["KeepError", "NoProgram", "NoRow", "NoState", "NoRun", "MAX_WIDTH", "MAX_VARIABLES", "MAX_ROWS", "MAX_WAYS", "MAX_NAME", "LETTERS", "is_int", "is_number_of", "is_name", "are_ints"] : List Str) ++ (["is_set_row", "is_choose_row", "is_row", "check_program", "reduced", "reduced_row", "Program", "variable_form", "value_of", "check_numbers", "is_pick", "checked_state", "walked", "go_on", "_law_draw"] : List Str) ++ (["_law_one", "_law_number", "_law_form", "_law_row", "_law_rows", "_law_raised", "_law_right"] : List Str)
theorem run (w : World) : HandSHeadRun.RunEq R (PySem.W.view R.prog [41]) hk ob 8000 loose w := by
  intro os
  kernel_rfl
end K03

set_option Elab.async false
set_option linter.all false
set_option maxRecDepth 100000
set_option maxHeartbeats 400000
/-! the law over the evaluator -/
namespace K03
open PySem L2 Mp
variable {g n : Nat} {S : Store} {P : D → Store → Prop} {xp : XPost}
theorem binL {a b : List D} (h : a.length + b.length ≤ 16777216) : binD .Add (.lst a) (.lst b) = some (.lst (a ++ b)) := by simp only [binD, lineB_small h, if_true]
theorem bin_repL {x : D} {k : Nat} (h : k ≤ 1000) : binD .Mult (.lst [x]) (.int k) = some (.lst (List.replicate k x)) := by
  have h1 : (k : Int).natAbs < 2 ^ 60 := by omega
  have h2 : lineB ([x].length * k) = true := lineB_small (by simp; omega)
  simp only [binD, Int.toNat_natCast, h2, decide_eq_true h1, Bool.and_self, if_true, repL]
  simp
theorem bin_repT {x : D} {k : Nat} (h : k ≤ 1000) : binD .Mult (.tup [x]) (.int k) = some (.tup (List.replicate k x)) := by
  have h1 : (k : Int).natAbs < 2 ^ 60 := by omega
  have h2 : lineB ([x].length * k) = true := lineB_small (by simp; omega)
  simp only [binD, Int.toNat_natCast, h2, decide_eq_true h1, Bool.and_self, if_true, repL]
  simp
theorem sk1 : PyData.strOk (Str.ofString "row") = true := by decide +kernel
theorem sk2 : PyData.strOk (Str.ofString "state") = true := by decide +kernel
theorem sk3 : PyData.strOk (Str.ofString "run") = true := by decide +kernel
theorem sk4 : PyData.strOk (Str.ofString "0") = true := by decide +kernel
theorem eqI_same {x : D} (h : cle 5 x = true) : eqDI S x x = some true := by
  have e : eqDS S x x = some true := by
    rw [eqDS_cle h h, eqD_cle h h (by omega) (by omega), sameD_self]
  simp only [eqDI, e]
theorem eqI_lit {x : D} {p : PyData} (h : ∀ S, derP S x = some p) (hs : SeqAt.shaped p = true) (he : PyData.eqv p p = true) : eqDI S x x = some true := by
  simp [eqDI, eqDS, h, hs, he]
theorem eqI_non : eqDI S (.tup [.str "row", .non]) (.tup [.str "row", .non]) = some true :=
  eqI_lit (p := .tuple [.str "row", .none]) (fun S => by simp [derP, derP.derPs, toP]) (by decide +kernel) (by decide +kernel)
theorem eqI_bl {b : Bool} : eqDI S (.tup [.str "row", .bl b]) (.tup [.str "row", .bl b]) = some true :=
  eqI_lit (p := .tuple [.str "row", .bool b]) (fun S => by simp [derP, derP.derPs, toP]) (by cases b <;> decide +kernel) (by cases b <;> decide +kernel)
theorem eqI_cel {k : Str} {m : Nat} {l : List (L2.Key × D)} (h : S[m]? = some (.dct l)) : eqDI S (.tup [.str k, .cel m]) (.tup [.str k, .cel m]) = some true := by
  have e : eqDS S (.tup [.str k, .cel m]) (.tup [.str k, .cel m]) = none := by simp [eqDS, derP, derP.derPs, h, toP]
  simp [eqDI, e, idTs, idD, flat, eqV]
theorem raised_row {th : Store → Out D} {v : D} {R : Store → Prop} (h : ∀ {xp2 : XPost} {P2 : D → Store → Prop}, (∀ S1, R S1 → xp2.x ⟨1, ["row"], [v]⟩ S1) → @wpI _ xp2 (th S) ⟨P2⟩) (q : ∀ S1, R S1 → P (.tup [.str "row", v]) S1) : @wpI _ xp ((sem cfg.F g (n+1)).fnT f__law_raised th S) ⟨P⟩ := by
  refine run_fnT (d := a__law_raised) [.th, .no, .no] rfl rfl ?_
  simp [a__law_raised]
  refine h fun S1 r => ?_
  simp [asE, getF]
  exact q S1 r
theorem raised_state {th : Store → Out D} {v : D} {R : Store → Prop} (h : ∀ {xp2 : XPost} {P2 : D → Store → Prop}, (∀ S1, R S1 → xp2.x ⟨2, ["index"], [v]⟩ S1) → @wpI _ xp2 (th S) ⟨P2⟩) (q : ∀ S1, R S1 → P (.tup [.str "state", v]) S1) : @wpI _ xp ((sem cfg.F g (n+1)).fnT f__law_raised th S) ⟨P⟩ := by
  refine run_fnT (d := a__law_raised) [.th, .no, .no] rfl rfl ?_
  simp [a__law_raised]
  refine h fun S1 r => ?_
  simp [asE, getF]
  exact q S1 r
theorem raised_run {th : Store → Out D} {v : D} {R : Store → Prop} (h : ∀ {xp2 : XPost} {P2 : D → Store → Prop}, (∀ S1, R S1 → xp2.x ⟨3, ["index"], [v]⟩ S1) → @wpI _ xp2 (th S) ⟨P2⟩) (q : ∀ S1, R S1 → P (.tup [.str "run", v]) S1) : @wpI _ xp ((sem cfg.F g (n+1)).fnT f__law_raised th S) ⟨P⟩ := by
  refine run_fnT (d := a__law_raised) [.th, .no, .no] rfl rfl ?_
  simp [a__law_raised]
  refine h fun S1 r => ?_
  simp [asE, getF]
  exact q S1 r
theorem raised_none {th : Store → Out D} (h : ∀ {xp2 : XPost} {P2 : D → Store → Prop}, (∀ x S1, P2 x S1) → @wpI _ xp2 (th S) ⟨P2⟩) (q : ∀ S1, P .non S1) : @wpI _ xp ((sem cfg.F g (n+1)).fnT f__law_raised th S) ⟨P⟩ := by
  refine run_fnT (d := a__law_raised) [.th, .no, .no] rfl rfl ?_
  simp [a__law_raised]
  refine h fun x S1 => ?_
  simp
  exact q S1
/-- the items of a list, of which something is wanted -/
theorem each {l : List D} {p : D → Prop} (h : ∀ x ∈ l, p x) {i : Nat} {d : D} (e : l[i]? = some d) : p d := h d (List.mem_of_getElem? e)
theorem strs_a {m : Nat} (h0 : 0 < m) (h1 : m ≤ 5) : ∃ z, binD .Mult (.str "a") (.int m) = some (.str z) := by
  have : m = 1 ∨ m = 2 ∨ m = 3 ∨ m = 4 ∨ m = 5 := by omega
  rcases this with rfl | rfl | rfl | rfl | rfl <;> exact ⟨_, rfl⟩
theorem right_sp {c : Nat} (hw : Well S c) (q : ∀ S1, P (.bl true) S1) : wp ((sem cfg.F g (n+10)).fn f__law_right [.cel c] [] [] S) P := by
  refine run_fn (d := a__law_right) [.va (.cel c), .no, .no, .no, .no, .no, .no, .no, .no, .no] rfl rfl rfl ?_
  simp only [a__law_right]
  simp
  refine one_sp hw (by simp) (by simp) fun x S1 hx u1 => ?_
  obtain ⟨w, rfl, w0, w1⟩ : ∃ w : Nat, x = .int w ∧ 1 ≤ w ∧ w ≤ 64 := by
    simp at hx
    rcases hx with rfl | rfl | rfl | rfl
    · exact ⟨1, rfl, by omega, by omega⟩
    · exact ⟨2, rfl, by omega, by omega⟩
    · exact ⟨8, rfl, by omega, by omega⟩
    · exact ⟨64, rfl, by omega, by omega⟩
  simp
  refine draw_sp u1.well (by omega) (divB_small (by omega) (by omega)) fun t S2 t0 t1 u2 => ?_
  obtain ⟨t, rfl⟩ := Int.eq_ofNat_of_zero_le t0
  simp
  refine draw_sp u2.well (by omega) (divB_small (by omega) (by omega)) fun k S3 k0 k1 u3 => ?_
  obtain ⟨k, rfl⟩ := Int.eq_ofNat_of_zero_le k0
  have e1 : cutL [D.str "y", D.str "x", D.str "zed", D.str "ab", D.str "q"] none (some (1 + (k : Int))) = (allNames.take (k + 1)).map D.str := by
    rw [show (1 : Int) + (k : Int) = ((k + 1 : Nat) : Int) by omega, cutL_take, List.map_take]
    rfl
  simp [slcD, e1]
  rw [show (1 : Int) + (t : Int) = ((t + 1 : Nat) : Int) by omega, ← List.map_take]
  have hn := names_ok (k := k)
  have hnl5 : (allNames.take (k + 1)).length ≤ 5 := Nat.le_trans (List.length_take_le' _ _) (by decide)
  generalize allNames.take (k + 1) = names at hn hnl5 ⊢
  refine rows_sp u3.well w1 hn.ne hn.len (by omega) (by omega) w0 fun rs S4 hl hrs u4 => ?_
  have uw4 := u4.well
  clear u1 u2 u3 u4 e1 k0 k1 t0 hw
  generalize hW : ((t + 1 : Nat) : Int) = W at hrs
  have hW2 : W = rs.length := by omega
  subst hW2
  clear hW
  have p0 : (0 : Int) < 2 ^ w := pow2_pos
  have r0 : rs ≠ [] := fun e => by rw [e] at hl; simp at hl
  have H : RowsOk (2 ^ w) names rs := ⟨hrs, r0⟩
  have hred : rs.map (Row.red (2 ^ w)) = rs := by
    conv => rhs; rw [← List.map_id rs]
    exact List.map_congr_left fun r hr => Row.red_id (hrs r hr).2
  have hnl := hn.len
  have hn0 : 0 < names.length := List.length_pos_iff.mpr hn.ne
  have hr1 : 0 < rs.length := List.length_pos_iff.mpr r0
  have hr25 : rs.length ≤ 25 := by omega
  simp
  refine make_sp w0 w1 hn (fun C => .lst _) r0 (by omega) (fun r hr => (hrs r hr).1) ?_
  rw [hred]
  simp
  have uw5 : Well (S4 ++ [Cell.gone]) c := (WU.grow uw4 _).well
  generalize (S4 ++ [Cell.gone]) = S5 at uw5 ⊢
  refine draw_sp uw5 (by omega) (divB_small (by omega) (by omega)) fun at_ S6 a0 a1 u6 => ?_
  have hp : powB 10 30 = true := powB_small (by omega) (by omega) (by decide)
  simp [hp]
  have uw7 : Well (S6 ++ [Cell.dct (dkM [] [])]) c := (WU.grow u6.well _).well
  have hd7 : (S6 ++ [Cell.dct (dkM [] [])])[S6.length]? = some (.dct (dkM [] [])) := by simp
  generalize hm : S6.length = m at hd7 ⊢
  generalize (S6 ++ [Cell.dct (dkM [] [])]) = S7 at uw7 hd7 ⊢
  clear u6 uw5 uw4
  refine wp_goForI _ (fun i ev S' => S' = S7 ∧ ∃ a : Sl, ev = [.va (.cel c), .va (.lst (names.map D.str)), .va (pD w names rs), a, .no, .va (.int w), .va (.int rs.length), .va (.int names.length), .va (.int at_), .no]) (fun _ _ _ _ => rfl) ?_ ?_ ⟨rfl, _, rfl⟩
  · rintro i d ev S' hi ⟨rfl, a, rfl⟩
    have h3 : okI S' d = true ∧ isNum d rs.length = false ∧ eqDI S' (.tup [.str "row", d]) (.tup [.str "row", d]) = some true := by
      have hd := List.mem_of_getElem? hi
      simp only [List.mem_cons, List.not_mem_nil, or_false] at hd
      rcases hd with rfl | rfl | rfl | rfl | rfl | rfl | rfl | rfl | rfl | rfl
      · exact ⟨rfl, by simp [isNum], eqI_same (by simp [cle, cles, sk1, sk2, sk3, sk4])⟩
      · exact ⟨rfl, by simp [isNum], eqI_same (by simp [cle, cles, sk1, sk2, sk3, sk4])⟩
      · exact ⟨rfl, by simp [isNum], eqI_non⟩
      · exact ⟨rfl, by simp [isNum], eqI_bl⟩
      · exact ⟨rfl, by simp [isNum], eqI_bl⟩
      · exact ⟨rfl, by simp [isNum], eqI_same (by simp [cle, cles, sk1, sk2, sk3, sk4])⟩
      · exact ⟨rfl, by simp [isNum], eqI_same (by simp [cle, cles, sk1, sk2, sk3, sk4])⟩
      · exact ⟨rfl, by simp [isNum], eqI_same (by simp [cle, cles, sk1, sk2, sk3, sk4])⟩
      · exact ⟨by simp [okI, hd7], by simp [isNum], eqI_cel hd7⟩
      · exact ⟨rfl, by simp [isNum]; omega, eqI_same (by simp [cle, cles, sk1, sk2, sk3, sk4])⟩
    simp
    refine raised_row (v := d) (R := fun S1 => S1 = S') (fun {xp2 P2} hx => ?_) fun S1 r => ?_
    · simp
      exact getitem_bad h3.1 h3.2.1 (hx _ rfl)
    subst r
    simp [h3.2.2]
    refine raised_row (v := d) (R := fun S2 => S2 = S1) (fun {xp2 P2} hx => ?_) fun S2 r => ?_
    · simp
      exact go_on_row h3.1 h3.2.1 (hx _ rfl)
    subst r
    simp [h3.2.2]
  rintro ev S' ⟨rfl, a, rfl⟩
  obtain ⟨za, ea⟩ := strs_a hn0 hnl5
  have eb : binD .Mult (.tup [.int 0]) (.int ((names.length : Int) + 1)) = some (.tup (List.replicate (names.length + 1) (.int 0))) := by
    rw [show (names.length : Int) + 1 = ((names.length + 1 : Nat) : Int) by omega]; exact bin_repT (by omega)
  have ec : binD .Mult (.lst [.int 0]) (.int ((names.length : Int) - 1)) = some (.lst (List.replicate (names.length - 1) (.int 0))) := by
    rw [show (names.length : Int) - 1 = ((names.length - 1 : Nat) : Int) by omega]; exact bin_repL (by omega)
  simp [ea, eb, ec]
  refine wp_goForI _ (fun i ev S2 => S2 = S' ∧ ∃ a : Sl, ev = [.va (.cel c), .va (.lst (names.map D.str)), .va (pD w names rs), a, .no, .va (.int w), .va (.int rs.length), .va (.int names.length), .va (.int at_), .no]) (fun _ _ _ _ => rfl) ?_ ?_ ⟨rfl, _, rfl⟩
  · rintro i d ev S2 hi ⟨rfl, a, rfl⟩
    have h3 : noSt S2 names.length d := by
      have hd := List.mem_of_getElem? hi
      simp only [List.mem_cons, List.not_mem_nil, or_false] at hd
      rcases hd with rfl | rfl | rfl | rfl | rfl | rfl
      · exact .inl ⟨rfl, rfl, rfl⟩
      · exact .inl ⟨rfl, rfl, rfl⟩
      · exact .inl ⟨rfl, rfl, rfl⟩
      · exact .inr ⟨_, .tup _, by simp⟩
      · exact .inr ⟨_, .lst _, by simp; omega⟩
      · exact .inl ⟨rfl, rfl, rfl⟩
    simp
    refine raised_state (v := .int (-1)) (R := fun S1 => S1 = S2) (fun {xp2 P2} hx => ?_) fun S1 r => ?_
    · simp
      exact go_on_state a0 a1 h3 (hx _ rfl)
    subst r
    simp [eqI_same (show cle 5 (.tup [.str "state", .int (-1)]) = true by simp [cle, cles, sk1, sk2, sk3, sk4])]
  rintro ev S2 ⟨rfl, b, rfl⟩
  simp
  refine draw_sp uw7 (by omega) (divB_small (by omega) (by omega)) fun sp S3 s0 s1 u8 => ?_
  obtain ⟨sp, rfl⟩ := Int.eq_ofNat_of_zero_le s0
  simp
  refine wp_goForI _ (fun i ev S2 => S2 = S3 ∧ ∃ a b : Sl, ev = [.va (.cel c), .va (.lst (names.map D.str)), .va (pD w names rs), a, .va (.int sp), .va (.int w), .va (.int rs.length), .va (.int names.length), .va (.int at_), b]) (fun _ _ _ _ => rfl) ?_ ?_ ⟨rfl, _, _, rfl⟩
  · rintro i d ev S2 hi ⟨rfl, a, b, rfl⟩
    have h3 : okI S2 d = true ∧ isInt d = false := by
      have hd := List.mem_of_getElem? hi
      simp only [List.mem_cons, List.not_mem_nil, or_false] at hd
      rcases hd with rfl | rfl | rfl | rfl | rfl | rfl <;> exact ⟨rfl, rfl⟩
    have e1 : binD .Mult (.lst [.int 3]) (.int sp) = some (.lst (List.replicate sp (.int 3))) := bin_repL (by omega)
    have e2 : binD .Mult (.lst [.non]) (.int ((names.length : Int) - sp - 1)) = some (.lst (List.replicate (names.length - sp - 1) .non)) := by
      rw [show (names.length : Int) - sp - 1 = ((names.length - sp - 1 : Nat) : Int) by omega]; exact bin_repL (by omega)
    have e3 : binD .Add (.lst (List.replicate sp (.int 3))) (.lst [d]) = some (.lst (List.replicate sp (.int 3) ++ [d])) := binL (by simp; omega)
    have e4 : binD .Add (.lst (List.replicate sp (.int 3) ++ [d])) (.lst (List.replicate (names.length - sp - 1) .non)) = some (.lst ((List.replicate sp (3 : Int)).map D.int ++ d :: List.replicate (names.length - sp - 1) .non)) := by
      rw [binL (by simp; omega)]; simp
    have hlen : ((List.replicate sp (3 : Int)).map D.int ++ d :: List.replicate (names.length - sp - 1) .non).length = names.length := by simp; omega
    have hsl : (List.replicate sp (3 : Int)).length = sp := by simp
    simp [e1, e2, e3, e4, -List.map_replicate]
    generalize hX : (List.replicate sp (3 : Int)).map D.int ++ d :: List.replicate (names.length - sp - 1) .non = X
    have hXl : AsSeq S2 (.lst X) ((List.replicate sp (3 : Int)).map D.int ++ d :: List.replicate (names.length - sp - 1) .non) := by rw [hX]; exact .lst _
    have hXt : AsSeq S2 (.tup X) ((List.replicate sp (3 : Int)).map D.int ++ d :: List.replicate (names.length - sp - 1) .non) := by rw [hX]; exact .tup _
    refine raised_state (v := .int sp) (R := fun S1 => S1 = S2) (fun {xp2 P2} hx => ?_) fun S1 r => ?_
    · simp
      refine go_on_item a0 a1 hXl hlen h3.1 h3.2 ?_
      rw [hsl]
      exact hx _ rfl
    subst r
    have tX : biD S1 .tuple [.lst X] = some (.tup X) := rfl
    simp [eqI_same (show cle 5 (.tup [.str "state", .int sp]) = true by simp [cle, cles, sk1, sk2, sk3, sk4])]
    refine raised_state (v := .int sp) (R := fun S2 => S2 = S1) (fun {xp2 P2} hx => ?_) fun S2 r => ?_
    · simp [tX]
      refine go_on_item a0 a1 hXt hlen h3.1 h3.2 ?_
      rw [hsl]
      exact hx _ rfl
    subst r
    simp [eqI_same (show cle 5 (.tup [.str "state", .int sp]) = true by simp [cle, cles, sk1, sk2, sk3, sk4])]
  rintro ev S9 ⟨rfl, a, b, rfl⟩
  have ez : ∀ v : Int, binD .Mult (.lst [.int v]) (.int names.length) = some (.lst ((List.replicate names.length v).map D.int)) := fun v => by
    rw [bin_repL (by omega)]; simp
  simp
  refine wp_goForI _ (fun i ev S2 => S2 = S9 ∧ ∃ a : Sl, ev = [.va (.cel c), .va (.lst (names.map D.str)), .va (pD w names rs), a, .va (.int sp), .va (.int w), .va (.int rs.length), .va (.int names.length), .va (.int at_), b]) (fun _ _ _ _ => rfl) ?_ ?_ ⟨rfl, _, rfl⟩
  · rintro i d ev S2 hi ⟨rfl, a, rfl⟩
    have h3 : okI S2 d = true ∧ isD S2 d .list = false ∧ isD S2 d .tuple = false := by
      have hd := List.mem_of_getElem? hi
      simp only [List.mem_cons, List.not_mem_nil, or_false] at hd
      rcases hd with rfl | rfl | rfl | rfl | rfl <;> exact ⟨rfl, rfl, rfl⟩
    simp
    refine raised_run (v := .int (-1)) (R := fun S1 => S1 = S2) (fun {xp2 P2} hx => ?_) fun S1 r => ?_
    · simp [ez, -List.map_replicate]
      exact go_on_none w1 hnl a0 a1 (.lst _) (by simp) h3.1 h3.2.1 h3.2.2 (hx _ rfl)
    subst r
    simp [eqI_same (show cle 5 (.tup [.str "run", .int (-1)]) = true by simp [cle, cles, sk1, sk2, sk3, sk4])]
  rintro ev S2 ⟨rfl, a, rfl⟩
  simp
  refine raised_none (fun {xp2 P2} hx => ?_) fun S1 => ?_
  · simp [hp, ez, -List.map_replicate]
    exact go_on_sp (nums := []) w0 w1 hnl H a0 a1 (.lst _) (by simp) (.tup _) (by simp) trivial (hx _ _)
  simp
  exact q _
theorem law_sp {ns : List Int} (hg : 100 ≤ g) (hn : ns.length ≤ 63) : @wpI _ XF ((sem cfg.F g (n+11)).fn f_law [scriptD ns] [] [] []) ⟨fun r _ => r = .bl true⟩ := by
  refine run_fn (d := a_law) [.va (scriptD ns), .no, .no, .no] rfl rfl rfl ?_
  have e0 : binD .Add (scriptD ns) (.lst [D.int 0]) = some (.lst ((ns ++ [0]).map D.int)) := by
    simp only [scriptD, binD, lineB_small (show (ns.map D.int).length + [D.int 0].length ≤ 16777216 by simp; omega), if_true]
    simp
  have e1 : cutL ((ns ++ [0]).map D.int) none (some 6) = ((ns ++ [0]).take 6).map D.int := by
    have := cutL_take (xs := (ns ++ [0]).map D.int) (k := 6)
    rw [List.map_take]; exact this
  simp only [a_law]
  simp only [List.map_append, List.map_cons, List.map_nil] at e0 e1
  simp [e0, slcD, e1, enmD]
  refine wp_goForI _ (fun k ev S' => ∃ a b c : Sl, ev = [.va (scriptD ns), a, b, c]) (fun _ _ _ _ => rfl) ?_ ?_ ⟨_, _, _, rfl⟩
  · rintro k d ev S' hk ⟨a, b, c, rfl⟩
    obtain ⟨x, hx, rfl⟩ := enm_get hk
    rw [show List.map D.int ns ++ [D.int 0] = (ns ++ [0]).map D.int by simp, ← List.map_take, List.getElem?_map] at hx
    obtain ⟨i, hi, rfl⟩ := Option.map_eq_some_iff.mp hx
    simp
    refine right_sp (g := g) (n := n) ⟨_, _, _, by rw [List.getElem?_append_right (by omega)]; simp; exact ⟨rfl, rfl, rfl⟩⟩ fun S2 => ?_
    simp
  · rintro ev S' ⟨a, b, c, rfl⟩
    simp
theorem law_ok (ns : List Int) (h : ns.length ≤ 63) (_ : ∀ z ∈ ns, Builtin.Int.intBits z ≤ 1048576) : ∃ S, (Mp.sem cfg.F 100 20).fn f_law [Mp.scriptD ns] [] [] [] = .ok (.bl true) S := by
  obtain ⟨a, S, e, h⟩ := wp.ok (law_sp (g := 100) (n := 9) (by omega) h)
  exact ⟨S, by rw [← h]; exact e⟩
end K03

set_option Elab.async false
set_option linter.all false
open PySem PySem.W PySem.Calls PyProof.Rows
set_option maxRecDepth 100000 in
set_option maxHeartbeats 0 in
theorem PySem.Challenge.cw_leastkeep_k03_rows_by_their_numbers_holds : PySem.Challenge.rw_leastkeep_k03_rows_by_their_numbers.Holds := by
  w_on; o_law
  refine HandSHeadRun.head_any (r := OpenLaw.row PySem.Challenge.rw_leastkeep_k03_rows_by_their_numbers) (q := view (OpenLaw.row PySem.Challenge.rw_leastkeep_k03_rows_by_their_numbers).prog [41]) (H := K03.hk) (ob := K03.ob) (M := 8000) (loose := K03.loose) (d := HandSHeadRun.topDef (OpenLaw.row PySem.Challenge.rw_leastkeep_k03_rows_by_their_numbers).prog 41) (kwd := []) K03.ob_eq
    (by kernel_rfl) (fun s => by kernel_rfl) K03.run (by kernel_rfl) (by kernel_rfl) (by kernel_rfl) (by rfl) (by first | assumption | decide +kernel) (by decide +kernel) ⟨rfl, rfl, rfl, rfl, rfl, by decide +kernel⟩ ?hw ?hc
  case hw => w_witness2
  case hc =>
    exact Mp.walk_cfg (l := PySem.Challenge.rw_leastkeep_k03_rows_by_their_numbers) (c := K03.cfg) (gas := 100) (dep := 20) (n := 63) (x := K03.c_law) (f := K03.f_law) (p := "_law_script") rfl (by decide) (by kernel_rfl) ⟨rfl, by decide, by decide⟩ (by kernel_rfl) K03.gs K03.kws K03.kfs K03.xgs rfl rfl rfl rfl K03.law_ok
