import PyProof.Rows.All
import PyProof.EqLayable
import PyProof.StrBlock2
import PyProof.StrBlockL
import Wide.All
import OpenK.AllK
import Wide.FinOn
import HandS.ForMost
import HandS.ForExc
import HandS.Wide
import HandS.NoneIn
import HandS.Rev
import HandS.RevTup
import PyProof.ListNew
import PyProof.ListRange
import HandS.IsInst
import HandS.Deep
import HandS.SortInts
import HandS.EndBits
import KE.IntBitsLaws
import PySem.Challenge.RW_stripmill_k03_whole_worth
set_option linter.all false
/-! The pure core: data, owned trees, states, and what each construct does with them. -/
namespace G
open PySem

/-- data that never changes -/
inductive D where
  | non | bl (b : Bool) | int (i : Int) | str (s : Str)
  | tup (l : List D) | lst (l : List D) | dct (k : Bool) (kvs : List (D × D)) | obj (c : Nat) (fs : List (Str × D))
  | rol (l : List D)
/-- what one name alone holds and may change; imm: data -/
inductive T where
  | imm (d : D) | lst (l : List T) | dct (k : Bool) (kvs : List (D × T)) | obj (c : Nat) (fs : List (Str × T))

mutual
def T.toD : T → D
  | .imm d => d
  | .lst l => .lst (T.toDs l)
  | .dct k kvs => .dct k (T.toKs kvs)
  | .obj c fs => .obj c (T.toFs fs)
def T.toDs : List T → List D
  | [] => []
  | t :: r => t.toD :: T.toDs r
def T.toKs : List (D × T) → List (D × D)
  | [] => []
  | (k, t) :: r => (k, t.toD) :: T.toKs r
def T.toFs : List (Str × T) → List (Str × D)
  | [] => []
  | (k, t) :: r => (k, t.toD) :: T.toFs r
end
def ims (l : List D) : List T := l.map T.imm
@[simp] theorem toDs_ims (l : List D) : T.toDs (ims l) = l := by
  induction l with
  | nil => rfl
  | cons d r ih => show d :: T.toDs (ims r) = d :: r; rw [ih]
@[simp] theorem toD_imm (d : D) : (T.imm d).toD = d := rfl
@[simp] theorem toD_lst (l : List T) : (T.lst l).toD = .lst (T.toDs l) := rfl
@[simp] theorem toDs_nil : T.toDs [] = [] := rfl
@[simp] theorem toDs_cons (t : T) (r : List T) : T.toDs (t :: r) = t.toD :: T.toDs r := rfl
@[simp] theorem ims_nil : ims [] = [] := rfl
@[simp] theorem ims_cons (d : D) (r : List D) : ims (d :: r) = .imm d :: ims r := rfl
theorem toDs_map (l : List T) : T.toDs l = l.map T.toD := by
  induction l with
  | nil => rfl
  | cons d r ih => show d.toD :: T.toDs r = _; rw [ih]; rfl
theorem ims_append (a b : List D) : ims (a ++ b) = ims a ++ ims b := List.map_append
@[simp] theorem ims_length (a : List D) : (ims a).length = a.length := List.length_map _

/-- a raised error: its class, its fields -/
structure X where
  cls : Nat
  fs : List (Str × D)
abbrev St := List (Option T)
/-- how code ends; no: nothing is said -/
inductive R (α : Type) where
  | no | ok (a : α) (st : St) | ex (x : X) (st : St)
abbrev Sm (α : Type) := St → R α
/-- where a statement goes on -/
inductive Fl where
  | nx | rt (t : T) | bk | ct
abbrev Ss := Sm Fl
/-- how a call ends: what comes back, the lent arguments as they are then -/
inductive FR where
  | no | ret (t : T) (ps : List (Option T)) | ex (x : X) (ps : List (Option T))
abbrev Fn := List T → FR

def R.bind {α β : Type} (r : R α) (k : α → Sm β) : R β := match r with
  | .no => .no
  | .ok a st => k a st
  | .ex x st => .ex x st
def Sm.bind {α β : Type} (m : Sm α) (k : α → Sm β) : Sm β := fun st => (m st).bind k
def Sm.pure {α : Type} (a : α) : Sm α := fun st => .ok a st
def Sm.ofO {α : Type} (o : Option α) : Sm α := fun st => match o with
  | some a => .ok a st
  | none => .no
@[simp] theorem bind_ok {α β : Type} (a : α) (st : St) (k : α → Sm β) : (R.ok a st).bind k = k a st := rfl
@[simp] theorem bind_no {α β : Type} (k : α → Sm β) : (R.no : R α).bind k = .no := rfl
@[simp] theorem bind_ex {α β : Type} (x : X) (st : St) (k : α → Sm β) : (R.ex x st : R α).bind k = .ex x st := rfl

/-! ### names, constants, operators -/
/-- a name as a value: from here on it is data -/
def sVar (i : Nat) : Sm T := fun st => match st[i]? with
  | some (some (.imm d)) => .ok (.imm d) st
  | some (some t) => .ok (.imm t.toD) (st.set i (some (.imm t.toD)))
  | _ => .no
/-- a name's value handed on; nothing is known of the name behind -/
def sMv (i : Nat) : Sm T := fun st => match st[i]? with
  | some (some t) => .ok t (st.set i none)
  | _ => .no
def sCst (d : D) : Sm T := fun st => .ok (.imm d) st
def sOp2 (f : D → D → Option T) (a b : Sm T) : Sm T := Sm.bind a fun x => Sm.bind b fun y => Sm.ofO (f x.toD y.toD)
def sUn (f : D → Option T) (a : Sm T) : Sm T := Sm.bind a fun x => Sm.ofO (f x.toD)
def some1 (d : D) : Option T := some (.imm d)

def line : Nat := 16777216
def bits (i : Int) : Nat := i.natAbs.log2
def mulLine : Nat := 134000000
def fAdd : D → D → Option T
  | .int i, .int j => some (.imm (.int (i + j)))
  | .str x, .str y => if x.length + y.length ≤ line then some (.imm (.str (x ++ y))) else none
  | .lst l, .lst r => if l.length + r.length ≤ line then some (.lst (ims (l ++ r))) else none
  | .tup l, .tup r => if l.length + r.length ≤ line ∧ 0 < l.length ∧ 0 < r.length then some (.imm (.tup (l ++ r))) else none
  | _, _ => none
def fAddI : D → D → Option T
  | .int i, .int j => some (.imm (.int (i + j)))
  | _, _ => none
def fSub : D → D → Option T
  | .int i, .int j => some (.imm (.int (i - j)))
  | _, _ => none
def fMul : D → D → Option T
  | .int i, .int j => if bits i + bits j < mulLine then some (.imm (.int (i * j))) else none
  | .lst l, .int k => if k < 1000000 ∧ -1000000 < k ∧ l.length * k.toNat ≤ line then some (.lst (ims ((List.replicate k.toNat l).flatten))) else none
  | .str s, .int k => if k < 1000000 ∧ -1000000 < k ∧ s.length ≤ 10000 ∧ s.length * k.toNat ≤ line then some (.imm (.str (Txt.mul s k))) else none
  | _, _ => none
def fDiv : D → D → Option T
  | .int i, .int j => if 0 < j ∧ bits j < 9000 then some (.imm (.int (i / j))) else none
  | _, _ => none
def fMod : D → D → Option T
  | .int i, .int j => if 0 < j then some (.imm (.int (i % j))) else none
  | _, _ => none
def fPow : D → D → Option T
  | .int i, .int j => if 0 ≤ j ∧ j ≤ 1000000 ∧ i.natAbs < 2 ^ 64 then some (.imm (.int (i ^ j.toNat))) else none
  | _, _ => none
def fNeg : D → Option T
  | .int i => some (.imm (.int (-i)))
  | _ => none
def fLt : D → D → Option T
  | .int i, .int j => some (.imm (.bl (decide (i < j))))
  | _, _ => none
def fLe : D → D → Option T
  | .int i, .int j => some (.imm (.bl (decide (i ≤ j))))
  | _, _ => none
def fGt : D → D → Option T
  | .int i, .int j => some (.imm (.bl (decide (j < i))))
  | _, _ => none
def fGe : D → D → Option T
  | .int i, .int j => some (.imm (.bl (decide (j ≤ i))))
  | _, _ => none
def D.isN : D → Bool
  | .non => true
  | _ => false
def fIsN : D → Option T := fun d => some (.imm (.bl d.isN))
def fNotN : D → Option T := fun d => some (.imm (.bl (!d.isN)))

/-! ### == of data -/
mutual
def D.py : D → PyData
  | .non => .none
  | .bl b => .bool b
  | .int i => .int i
  | .str s => .str s
  | .tup l => .tuple (D.pys l)
  | .lst l => .list (D.pys l)
  | .dct _ _ => .dict []
  | .obj _ _ => .dict []
  | .rol _ => .dict []
def D.pys : List D → List PyData
  | [] => []
  | d :: r => d.py :: D.pys r
end
/-- no dict, no object in it, not deeper than k -/
def D.flat : Nat → D → Bool
  | _, .non => true
  | _, .bl _ => true
  | _, .int _ => true
  | _, .str s => PyData.canLay0 (.str s)
  | k + 1, .tup l => l.all (D.flat k)
  | k + 1, .lst l => l.all (D.flat k)
  | _, _ => false
/-- == of what is no list, no tuple -/
def sEq : D → D → Option Bool
  | .non, .non => some true
  | .non, .int _ => some false
  | .int _, .non => some false
  | .non, .bl _ => some false
  | .bl _, .non => some false
  | .non, .str _ => some false
  | .str _, .non => some false
  | .int i, .int j => some (decide (i = j))
  | .bl i, .bl j => some (decide (i = j))
  | .str i, .str j => some (decide (i = j))
  | .int _, .str _ => some false
  | .str _, .int _ => some false
  | .bl _, .str _ => some false
  | .str _, .bl _ => some false
  | _, _ => none
def dEq (a b : D) : Option Bool := match sEq a b with
  | some c => some c
  | none => if D.flat 40 a && D.flat 40 b then some (PyData.eqv a.py b.py) else none
def fEq : D → D → Option T := fun a b => (dEq a b).map fun c => .imm (.bl c)
def fNe : D → D → Option T := fun a b => (dEq a b).map fun c => .imm (.bl (!c))
/-- x in y -/
def dIn : D → D → Option Bool
  | .str x, .str y => match x.cps.toList with
    | [c] => some (decide (c ∈ y.cps.toList))
    | _ => none
  | d, .lst l => if D.flat 40 d && l.all (D.flat 39) then some (l.any fun z => PyData.eqv z.py d.py) else none
  | d, .rol l => if D.flat 40 d && l.all (D.flat 39) then some (l.any fun z => PyData.eqv z.py d.py) else none
  | d, .tup l => if D.flat 0 d && l.all (D.flat 0) then some (l.any fun z => PyData.eqv z.py d.py) else none
  | _, _ => none
def fIn : D → D → Option T := fun a b => (dIn a b).map fun c => .imm (.bl c)
def fNotIn : D → D → Option T := fun a b => (dIn a b).map fun c => .imm (.bl (!c))

/-! ### items, lengths -/
/-- the item at an index of any sign -/
def atI {α : Type} (xs : List α) (i : Int) : Option α :=
  if 0 ≤ i then xs[i.toNat]? else if 0 ≤ i + xs.length then xs[(i + xs.length).toNat]? else none
def fIx : D → D → Option T
  | .lst l, .int i => (atI l i).map T.imm
  | .tup l, .int i => (atI l i).map T.imm
  | .rol l, .int i => (atI l i).map T.imm
  | .str s, .int i => if s.length ≤ line then (atI s.cps.toList i).map fun c => .imm (.str ⟨#[c]⟩) else none
  | _, _ => none
def fLen : D → Option T
  | .lst l => some (.imm (.int l.length))
  | .tup l => some (.imm (.int l.length))
  | .rol l => some (.imm (.int l.length))
  | .str s => if s.length ≤ line then some (.imm (.int s.length)) else none
  | _ => none

/-- a op b op' c -/
def sChain (f g : D → D → Option T) (a b c : Sm T) : Sm T := Sm.bind a fun x => Sm.bind b fun y => match f x.toD y.toD with
  | some (.imm (.bl true)) => Sm.bind c fun z => Sm.ofO (g y.toD z.toD)
  | some (.imm (.bl false)) => Sm.pure (.imm (.bl false))
  | _ => fun _ => .no
/-- where a slice begins, ends -/
def cutAt (n d : Nat) : Option Int → Nat
  | some v => if v < 0 then (v + n).toNat else min v.toNat n
  | none => d
def cutL {α : Type} (l : List α) (lo hi : Option Int) : List α := (l.drop (cutAt l.length 0 lo)).take (cutAt l.length l.length hi - cutAt l.length 0 lo)
def fSlice : D → Option Int → Option Int → Option T
  | .lst l, lo, hi => some (.lst (ims (cutL l lo hi)))
  | .rol l, lo, hi => some (.lst (ims (cutL l lo hi)))
  | .tup l, lo, hi => if cutAt l.length 0 lo = 0 ∧ cutAt l.length l.length hi = l.length then none else some (.imm (.tup (cutL l lo hi)))
  | .str s, lo, hi => if s.length ≤ line then some (.imm (.str ⟨(cutL s.cps.toList lo hi).toArray⟩)) else none
  | _, _, _ => none
abbrev So := Sm (Option Int)
def oNone : So := fun st => .ok none st
def oSome (m : Sm T) : So := Sm.bind m fun t st => match t.toD with
  | .int i => .ok (some i) st
  | _ => .no
def sSlice (a : Sm T) (lo hi : So) : Sm T := Sm.bind a fun x => Sm.bind lo fun l => Sm.bind hi fun h => Sm.ofO (fSlice x.toD l h)

/-! ### what built-ins tell -/
def bLen : List D → Option T
  | [d] => fLen d
  | _ => none
def bAbs : List D → Option T
  | [.int i] => some1 (.int (if i < 0 then -i else i))
  | _ => none
def allI : List D → Option (List Int)
  | [] => some []
  | .int i :: r => (allI r).map (i :: ·)
  | _ => none
def bMax2 : List D → Option T
  | [.int i, .int j] => some1 (.int (if j > i then j else i))
  | _ => none
def bMin2 : List D → Option T
  | [.int i, .int j] => some1 (.int (if j < i then j else i))
  | _ => none
def bInt : List D → Option T
  | [.int i] => some1 (.int i)
  | [.bl k] => some1 (.int (if k then 1 else 0))
  | _ => none
def bStr : List D → Option T
  | [.int i] => if bits i < 1920 then some1 (.str (toString i)) else none
  | _ => none
def bSum : List D → Option T
  | [.lst l] => (allI l).map fun ns => .imm (.int ns.sum)
  | _ => none
def bMaxL : List D → Option T
  | [.lst l] => match allI l with
    | some (n :: ns) => some1 (.int (ns.foldl (fun m k => if k > m then k else m) n))
    | _ => none
  | _ => none
def bMinL : List D → Option T
  | [.lst l] => match allI l with
    | some (n :: ns) => some1 (.int (ns.foldl (fun m k => if k < m then k else m) n))
    | _ => none
  | _ => none
def bList : List D → Option T
  | [.lst l] => some (.lst (ims l))
  | [.rol l] => some (.lst (ims l))
  | [.tup l] => some (.lst (ims l))
  | _ => none
def bTuple : List D → Option T
  | [.lst l] => some1 (.tup l)
  | [.tup l] => some1 (.tup l)
  | _ => none
/-- whole numbers in order -/
def ins (x : Int) : List Int → List Int
  | [] => [x]
  | y :: r => if x ≤ y then x :: y :: r else y :: ins x r
def srt : List Int → List Int
  | [] => []
  | x :: r => ins x (srt r)
def bSorted : List D → Option T
  | [.lst l] => (allI l).map fun ns => .lst (ims ((srt ns).map D.int))
  | [.rol l] => (allI l).map fun ns => .lst (ims ((srt ns).map D.int))
  | _ => none
/-- list(reversed(x)) -/
def fRev : D → Option T
  | .lst l => some (.lst (ims l.reverse))
  | .tup l => some (.lst (ims l.reverse))
  | .rol l => some (.lst (ims l.reverse))
  | _ => none
inductive Ki where
  | int | bl | str | tup | lst
/-- isinstance -/
def fIsi (k : Ki) : D → Option T
  | .non => some1 (.bl false)
  | .bl _ => some1 (.bl (match k with | .int => true | .bl => true | _ => false))
  | .int _ => some1 (.bl (match k with | .int => true | _ => false))
  | .str _ => some1 (.bl (match k with | .str => true | _ => false))
  | .tup _ => some1 (.bl (match k with | .tup => true | _ => false))
  | .lst _ => some1 (.bl (match k with | .lst => true | _ => false))
  | _ => none
def allS : List D → Option (List Str)
  | [] => some []
  | .str i :: r => (allS r).map (i :: ·)
  | _ => none
def fJoin (a : Str) : D → Option T
  | .lst l => match allS l with
    | some ys => if (ys.map (·.length)).sum + ys.length * a.length ≤ line then some1 (.str (Txt.join a ys)) else none
    | none => none
  | _ => none
/-- a text's method of one argument -/
def sStr1 (f : Str → D → Option T) (a b : Sm T) : Sm T := Sm.bind a fun x => match x.toD with
  | .str s => Sm.bind b fun y => Sm.ofO (f s y.toD)
  | _ => fun _ => .no

/-! ### displays, arguments -/
abbrev Sa := Sm (List T × List (Option Nat))
def aNil : Sa := fun st => .ok ([], []) st
def aVal (m : Sm T) (r : Sa) : Sa := Sm.bind m fun t => Sm.bind r fun p st => .ok (t :: p.1, none :: p.2) st
/-- a name's own thing lent to the callee -/
def aLend (i : Nat) (r : Sa) : Sa := fun st => match st[i]? with
  | some (some t) => (r (st.set i none)).bind fun p st' => .ok (t :: p.1, some i :: p.2) st'
  | _ => .no
def sTup (a : Sa) : Sm T := Sm.bind a fun p st => if p.1.length ≤ 1000 then .ok (.imm (.tup (T.toDs p.1))) st else .no
def sLst (a : Sa) : Sm T := Sm.bind a fun p st => if p.1.length ≤ 1000 then .ok (.lst p.1) st else .no
/-- a builtin's call on data -/
def sBlt (f : List D → Option T) (a : Sa) : Sm T := Sm.bind a fun p => Sm.ofO (f (T.toDs p.1))
/-- the lent things come back -/
def wb : List (Option Nat) → List (Option T) → St → St
  | some i :: ls, p :: ps, st => wb ls ps (st.set i p)
  | none :: ls, _ :: ps, st => wb ls ps st
  | _, _, st => st
def sCall (f : Fn) (a : Sa) : Sm T := Sm.bind a fun p st => match f p.1 with
  | .no => .no
  | .ret t ps => .ok t (wb p.2 ps st)
  | .ex x ps => .ex x (wb p.2 ps st)

mutual
/-- a value that holds no place in the heap but its own -/
def T.scal : T → Bool
  | .imm .non => true
  | .imm (.bl _) => true
  | .imm (.int _) => true
  | .imm (.str _) => true
  | .lst l => T.scalL l
  | _ => false
def T.scalL : List T → Bool
  | [] => true
  | t :: r => t.scal && T.scalL r
end
def frzSt (st : St) : St := st.map (Option.map fun t => T.imm t.toD)
/-- worked out while all that is owned is data; behind it all is as it was -/
def sView (m : Sm T) : Sm T := fun st => match m (frzSt st) with
  | .ok t _ => if t.scal then .ok t st else .no
  | _ => .no
def sViewB (m : Sm Bool) : Sm Bool := fun st => match m (frzSt st) with
  | .ok b _ => .ok b st
  | _ => .no

/-! ### tests -/
def sTest (m : Sm T) : Sm Bool := Sm.bind m fun t st => match t.toD with
  | .bl b => .ok b st
  | _ => .no
def bAnd (a b : Sm Bool) : Sm Bool := Sm.bind a fun x => if x then b else Sm.pure false
def bOr (a b : Sm Bool) : Sm Bool := Sm.bind a fun x => if x then Sm.pure true else b
def bNot (a : Sm Bool) : Sm Bool := Sm.bind a fun x => Sm.pure (!x)
def ofB (a : Sm Bool) : Sm T := Sm.bind a fun b => Sm.pure (.imm (.bl b))
def sAndV (a b : Sm T) : Sm T := Sm.bind (sTest a) fun x => if x then b else Sm.pure (.imm (.bl false))
def sOrV (a b : Sm T) : Sm T := Sm.bind (sTest a) fun x => if x then Sm.pure (.imm (.bl true)) else b
def sNotV (a : Sm T) : Sm T := Sm.bind (sTest a) fun x => Sm.pure (.imm (.bl (!x)))

/-! ### statements -/
def sSet (i : Nat) (e : Sm T) : Ss := Sm.bind e fun t st => .ok .nx (st.set i (some t))
/-- a name that is never changed by place: data at once -/
def sSetF (i : Nat) (e : Sm T) : Ss := Sm.bind e fun t st => .ok .nx (st.set i (some (.imm t.toD)))
abbrev Pat := D → St → Option St
def gName (i : Nat) : Pat := fun d st => some (st.set i (some (.imm d)))
def gAll : List Pat → List D → St → Option St
  | [], [], st => some st
  | p :: ps, d :: ds, st => (p d st).bind (gAll ps ds)
  | _, _, _ => none
def gTup (ps : List Pat) : Pat := fun d st => match d with
  | .tup l => gAll ps l st
  | _ => none
/-- a list's items in as many names -/
def gUnp (ps : List Pat) : Pat := fun d st => match d with
  | .lst l => gAll ps l st
  | _ => none
def sAsg (g : Pat) (e : Sm T) : Ss := Sm.bind e fun t st => match g t.toD st with
  | some st' => .ok .nx st'
  | none => .no
def sExpr (e : Sm T) : Ss := Sm.bind e fun _ st => .ok .nx st
def sRet (e : Sm T) : Ss := Sm.bind e fun t st => .ok (.rt t) st
def sRetN : Ss := fun st => .ok (.rt (.imm .non)) st
def sPass : Ss := fun st => .ok .nx st
def sBreak : Ss := fun st => .ok .bk st
def sNever : Ss := fun _ => .no
def sSeq (a b : Ss) : Ss := Sm.bind a fun f st => match f with
  | .nx => b st
  | f => .ok f st
def sIf (c : Sm Bool) (a b : Ss) : Ss := Sm.bind c fun x => if x then a else b
def sAug (i : Nat) (f : D → D → Option T) (e : Sm T) : Ss := fun st => match st[i]? with
  | some (some (.imm d)) => (e st).bind fun y st' => match f d y.toD with
    | some t => .ok .nx (st'.set i (some (.imm t.toD)))
    | none => .no
  | _ => .no

/-! ### an owned list changed by place -/
/-- x.m(e): the list that x holds is changed by f -/
def sMeth (i : Nat) (f : List T → List T → Option (List T × T)) (a : Sa) : Sm T := fun st => match st[i]? with
  | some (some (.lst _)) => (a st).bind fun p st => match st[i]? with
    | some (some (.lst l)) => match f l p.1 with
      | some (t', r) => .ok r (st.set i (some (.lst t')))
      | none => .no
    | _ => .no
  | _ => .no
def mAppend : List T → List T → Option (List T × T)
  | l, [t] => if l.length < line then some (l ++ [t], .imm .non) else none
  | _, _ => none
def mExtend : List T → List T → Option (List T × T)
  | l, [t] => match t.toD with
    | .lst r => if l.length + r.length ≤ line then some (l ++ ims r, .imm .non) else none
    | _ => none
  | _, _ => none
def mPop : List T → List T → Option (List T × T)
  | l, [] => match l[l.length - 1]? with
    | some t => some (l.dropLast, t)
    | none => none
  | _, _ => none
/-- x.pop(0) -/
def mPop0 : List T → List T → Option (List T × T)
  | t0 :: r, [.imm (.int 0)] => some (r, t0)
  | _, _ => none
def mClear : List T → List T → Option (List T × T)
  | _, [] => some ([], .imm .non)
  | _, _ => none

/-! ### loops -/
def loopFor (g : Pat) (body : Ss) : List D → Ss
  | [] => fun st => .ok .nx st
  | d :: r => fun st => match g d st with
    | none => .no
    | some st1 => (body st1).bind fun f st2 => match f with
      | .nx => loopFor g body r st2
      | .ct => loopFor g body r st2
      | .bk => .ok .nx st2
      | .rt t => .ok (.rt t) st2
abbrev Si := Sm (List D)
def sFor (src : Si) (g : Pat) (body : Ss) : Ss := Sm.bind src fun ds => loopFor g body ds
def iList (m : Sm T) : Si := Sm.bind m fun t st => match t.toD with
  | .lst l => .ok l st
  | .rol l => .ok l st
  | _ => .no
def iTup (m : Sm T) : Si := Sm.bind m fun t st => match t.toD with
  | .tup l => .ok l st
  | _ => .no
/-- lo, lo + c, ..: n of them -/
def rng (lo c : Int) : Nat → List D
  | 0 => []
  | n + 1 => .int lo :: rng (lo + c) c n
def small (i : Int) : Bool := decide (-1000000000 ≤ i) && decide (i ≤ 1000000000)
def rng1 : List D → Option (List D)
  | [.int n] => if small n then some (rng 0 1 n.toNat) else none
  | _ => none
def rng2 : List D → Option (List D)
  | [.int a, .int b] => if small a && small b then some (rng a 1 (b - a).toNat) else none
  | _ => none
def rng3 : List D → Option (List D)
  | [.int a, .int b, .int c] => if small a && small b && small c && decide (0 < c) then some (rng a c (if a < b then (b - a - 1) / c + 1 else 0).toNat) else none
  | _ => none
def iRange (f : List D → Option (List D)) (a : Sa) : Si := Sm.bind a fun p => Sm.ofO (f (T.toDs p.1))
/-- at most n turns -/
def loopW (c : Sm Bool) (body : Ss) : Nat → Ss
  | 0 => fun _ => .no
  | n + 1 => Sm.bind c fun b => if b then Sm.bind body fun f => match f with
      | .nx => loopW c body n
      | .ct => loopW c body n
      | .bk => fun st => .ok .nx st
      | .rt t => fun st => .ok (.rt t) st
    else fun st => .ok .nx st
/-- [elt for g in src if tests]: own: the slots of its own names -/
def wipe (st : St) : List Nat → St
  | [] => st
  | v :: vs => (wipe st vs).set v none
def back (st : St) : List Nat → St → St
  | [], s => s
  | v :: vs, s => back st vs (s.set v ((wipe st vs)[v]?.getD none))
/-- what raises is not told -/
def nox {α : Type} (m : Sm α) : Sm α := fun st => match m st with
  | .ok a st' => .ok a st'
  | _ => .no
def loopLC (own : List Nat) (g : Pat) (test : Sm Bool) (elt : Sm T) : List D → List T → Sm (List T)
  | [], acc => fun st => .ok acc st
  | d :: r, acc => fun st => match g d st with
    | none => .no
    | some st1 => (nox test st1).bind fun b st2 =>
      if b then (nox elt st2).bind fun t st3 => if acc.length < line then loopLC own g test elt r (acc ++ [t]) (wipe st3 own) else .no
      else loopLC own g test elt r acc (wipe st2 own)
def bYes : Sm Bool := fun st => .ok true st
def sLC (own : List Nat) (src : Si) (g : Pat) (test : Sm Bool) (elt : Sm T) : Sm T := Sm.bind src fun ds st =>
  (loopLC own g test elt ds [] (wipe st own)).bind fun l st' => .ok (.lst l) (back st own st')

/-! ### defs -/
/-- the parameters fx as they are in the end -/
def fin (fx : List Nat) : Nat → Nat → St → List (Option T)
  | _, 0, _ => []
  | i, n + 1, [] => none :: fin fx (i + 1) n []
  | i, n + 1, o :: st => (if i ∈ fx then o else none) :: fin fx (i + 1) n st
/-- a def: its parameters, the number of its names, the parameters that are never stored anew, its body -/
def sDef (np n : Nat) (fx : List Nat) (body : Ss) : Fn := fun ts =>
  if ts.length = np then match body (ts.map some ++ List.replicate (n - np) none) with
    | .no => .no
    | .ex x st => .ex x (fin fx 0 np st)
    | .ok .nx st => .ret (.imm .non) (fin fx 0 np st)
    | .ok (.rt t) st => .ret t (fin fx 0 np st)
    | .ok _ _ => .no
  else .no
end G
set_option Elab.async false
set_option linter.all false
set_option maxRecDepth 100000
/-! What stands in the heap for data, for owned trees, for a state. -/
namespace G
open PySem L2

/-- where the classes of the program and of its errors stand -/
structure Wh where
  K : PySem.W.Frag
  cl : Nat → Addr
  xc : Nat → Addr

def Sub (B H : Hp) : Prop := ∀ a o, B a = some o → H a = some o
theorem Sub.refl (B : Hp) : Sub B B := fun _ _ h => h
theorem Sub.trans {A B C : Hp} (x : Sub A B) (y : Sub B C) : Sub A C := fun a o h => y a o (x a o h)
theorem Sub.rd {B H : Hp} {a : Addr} {u : HO} (e : Sub B H) (h : Rd B a u) : Rd H a u := by
  rcases h with h | ⟨o, h⟩
  · exact Or.inl (e a _ h)
  · exact Or.inr ⟨o, e a _ h⟩
theorem Sub.sl {K : PySem.W.Frag} {B H : Hp} {a : Addr} {xs : List V} (e : Sub B H) (h : SqL K B a xs) : SqL K H a xs := by
  rcases h with h | h
  · exact Or.inl (e.rd h)
  · exact Or.inr h
theorem Sub.st {K : PySem.W.Frag} {B H : Hp} {a : Addr} {xs : List V} (e : Sub B H) (h : SqT K B a xs) : SqT K H a xs := by
  rcases h with h | h
  · exact Or.inl (e.rd h)
  · exact Or.inr h
theorem Sub.put {B H : Hp} {p : Addr} {o : HO} (e : Sub B H) (h : B p = none) : Sub B (upd H p o) := fun a u ha => by
  rw [upd_ne (ne_of_none ha h)]
  exact e a u ha
theorem Sub.new {H : Hp} {p : Addr} {o : HO} (h : H p = none) : Sub H (upd H p o) := (Sub.refl H).put h
theorem Sub.none {B H : Hp} {p : Addr} (e : Sub B H) (h : H p = none) : B p = none := by
  cases q : B p with
  | none => rfl
  | some o => rw [e p o q] at h; cases h

def keyD : Key → D
  | .inl i => .int i
  | .inr s => .str s

variable (Γ : Wh)
mutual
/-- v is d, by objects of B -/
inductive Rp (B : Hp) : V → D → Prop
  | non : Rp B .non .non
  | bl (b : Bool) : Rp B (.bl b) (.bl b)
  | int (i : Int) : Rp B (.int i) (.int i)
  | str (s : Str) : Rp B (.str s) (.str s)
  | tup {a : Addr} {vs : List V} {l : List D} : SqT Γ.K B a vs → RpL B vs l → Rp B (.ref a) (.tup l)
  | lst {a : Addr} {vs : List V} {l : List D} : B a = some (.lst vs) → RpL B vs l → Rp B (.ref a) (.lst l)
  | rol {a : Addr} {vs : List V} {l : List D} : SqL Γ.K B a vs → RpL B vs l → Rp B (.ref a) (.rol l)
  | dK {a : Addr} {vs : List (Key × V)} {l : List (D × D)} : Rd B a (.dK vs) → RpK B vs l → Rp B (.ref a) (.dct false l)
  | dT {a : Addr} {vs : List (List Key × V)} {l : List (D × D)} : Rd B a (.dT vs) → RpU B vs l → Rp B (.ref a) (.dct true l)
  | obj {a dx : Addr} {c : Nat} {vs : List (Str × V)} {l : List (Str × D)} : B a = some (.ins (Γ.cl c) dx vs) → RpF B vs l → Rp B (.ref a) (.obj c l)
inductive RpL (B : Hp) : List V → List D → Prop
  | nil : RpL B [] []
  | cons {v : V} {d : D} {vs : List V} {l : List D} : Rp B v d → RpL B vs l → RpL B (v :: vs) (d :: l)
inductive RpK (B : Hp) : List (Key × V) → List (D × D) → Prop
  | nil : RpK B [] []
  | cons {k : Key} {v : V} {d : D} {vs : List (Key × V)} {l : List (D × D)} : Rp B v d → RpK B vs l → RpK B ((k, v) :: vs) ((keyD k, d) :: l)
inductive RpU (B : Hp) : List (List Key × V) → List (D × D) → Prop
  | nil : RpU B [] []
  | cons {k : List Key} {v : V} {d : D} {vs : List (List Key × V)} {l : List (D × D)} : Rp B v d → RpU B vs l → RpU B ((k, v) :: vs) ((.tup (k.map keyD), d) :: l)
inductive RpF (B : Hp) : List (Str × V) → List (Str × D) → Prop
  | nil : RpF B [] []
  | cons {k : Str} {v : V} {d : D} {vs : List (Str × V)} {l : List (Str × D)} : Rp B v d → RpF B vs l → RpF B ((k, v) :: vs) ((k, d) :: l)
end
mutual
theorem Rp.mono {B H : Hp} (e : Sub B H) : ∀ {v : V} {d : D}, Rp Γ B v d → Rp Γ H v d
  | _, _, .non => .non
  | _, _, .bl b => .bl b
  | _, _, .int b => .int b
  | _, _, .str b => .str b
  | _, _, .tup h r => .tup (e.st h) (RpL.mono e r)
  | _, _, .lst h r => .lst (e _ _ h) (RpL.mono e r)
  | _, _, .rol h r => .rol (e.sl h) (RpL.mono e r)
  | _, _, .dK h r => .dK (e.rd h) (RpK.mono e r)
  | _, _, .dT h r => .dT (e.rd h) (RpU.mono e r)
  | _, _, .obj h r => .obj (e _ _ h) (RpF.mono e r)
theorem RpL.mono {B H : Hp} (e : Sub B H) : ∀ {v : List V} {d : List D}, RpL Γ B v d → RpL Γ H v d
  | _, _, .nil => .nil
  | _, _, .cons h r => .cons (Rp.mono e h) (RpL.mono e r)
theorem RpK.mono {B H : Hp} (e : Sub B H) : ∀ {v : List (Key × V)} {d : List (D × D)}, RpK Γ B v d → RpK Γ H v d
  | _, _, .nil => .nil
  | _, _, .cons h r => .cons (Rp.mono e h) (RpK.mono e r)
theorem RpU.mono {B H : Hp} (e : Sub B H) : ∀ {v : List (List Key × V)} {d : List (D × D)}, RpU Γ B v d → RpU Γ H v d
  | _, _, .nil => .nil
  | _, _, .cons h r => .cons (Rp.mono e h) (RpU.mono e r)
theorem RpF.mono {B H : Hp} (e : Sub B H) : ∀ {v : List (Str × V)} {d : List (Str × D)}, RpF Γ B v d → RpF Γ H v d
  | _, _, .nil => .nil
  | _, _, .cons h r => .cons (Rp.mono e h) (RpF.mono e r)
end

mutual
/-- v is the owned tree t: its own objects F in H, the data in B -/
inductive Ow (B H : Hp) : V → T → List Addr → Prop
  | imm {v : V} {d : D} : Rp Γ B v d → Ow B H v (.imm d) []
  | lst {a : Addr} {vs : List V} {l : List T} {F : List Addr} : H a = some (.lst vs) → OwL B H vs l F → Ow B H (.ref a) (.lst l) (a :: F)
  | dK {a : Addr} {vs : List (Key × V)} {l : List (D × T)} {F : List Addr} : H a = some (.dK vs) → OwK B H vs l F → Ow B H (.ref a) (.dct false l) (a :: F)
  | dT {a : Addr} {vs : List (List Key × V)} {l : List (D × T)} {F : List Addr} : H a = some (.dT vs) → OwU B H vs l F → Ow B H (.ref a) (.dct true l) (a :: F)
  | obj {a dx : Addr} {c : Nat} {vs : List (Str × V)} {l : List (Str × T)} {F : List Addr} : H a = some (.ins (Γ.cl c) dx vs) → H dx = some (.own a) → OwF B H vs l F → Ow B H (.ref a) (.obj c l) (a :: dx :: F)
inductive OwL (B H : Hp) : List V → List T → List Addr → Prop
  | nil : OwL B H [] [] []
  | cons {v : V} {t : T} {vs : List V} {l : List T} {F F' : List Addr} : Ow B H v t F → OwL B H vs l F' → OwL B H (v :: vs) (t :: l) (F ++ F')
inductive OwK (B H : Hp) : List (Key × V) → List (D × T) → List Addr → Prop
  | nil : OwK B H [] [] []
  | cons {k : Key} {v : V} {t : T} {vs : List (Key × V)} {l : List (D × T)} {F F' : List Addr} : Ow B H v t F → OwK B H vs l F' → OwK B H ((k, v) :: vs) ((keyD k, t) :: l) (F ++ F')
inductive OwU (B H : Hp) : List (List Key × V) → List (D × T) → List Addr → Prop
  | nil : OwU B H [] [] []
  | cons {k : List Key} {v : V} {t : T} {vs : List (List Key × V)} {l : List (D × T)} {F F' : List Addr} : Ow B H v t F → OwU B H vs l F' → OwU B H ((k, v) :: vs) ((.tup (k.map keyD), t) :: l) (F ++ F')
inductive OwF (B H : Hp) : List (Str × V) → List (Str × T) → List Addr → Prop
  | nil : OwF B H [] [] []
  | cons {k : Str} {v : V} {t : T} {vs : List (Str × V)} {l : List (Str × T)} {F F' : List Addr} : Ow B H v t F → OwF B H vs l F' → OwF B H ((k, v) :: vs) ((k, t) :: l) (F ++ F')
end
section
variable {Γ}
variable {B H B' H' : Hp}
/-- its own objects stand as they stood -/
def At (H H' : Hp) (F : List Addr) : Prop := ∀ a ∈ F, ∀ o, H a = some o → H' a = some o
theorem At.l {F G : List Addr} (h : At H H' (F ++ G)) : At H H' F := fun a m => h a (List.mem_append_left _ m)
theorem At.r {F G : List Addr} (h : At H H' (F ++ G)) : At H H' G := fun a m => h a (List.mem_append_right _ m)
theorem At.t {a : Addr} {F : List Addr} (h : At H H' (a :: F)) : At H H' F := fun b m => h b (List.mem_cons_of_mem _ m)
theorem At.h {a : Addr} {F : List Addr} (h : At H H' (a :: F)) {o : HO} (e : H a = some o) : H' a = some o := h a List.mem_cons_self o e
mutual
theorem Ow.at (e : Sub B B') : ∀ {v : V} {t : T} {F : List Addr}, Ow Γ B H v t F → At H H' F → Ow Γ B' H' v t F
  | _, _, _, .imm h, _ => .imm (h.mono Γ e)
  | _, _, _, .lst h r, k => .lst (k.h h) (OwL.at e r k.t)
  | _, _, _, .dK h r, k => .dK (k.h h) (OwK.at e r k.t)
  | _, _, _, .dT h r, k => .dT (k.h h) (OwU.at e r k.t)
  | _, _, _, .obj h i r, k => .obj (k.h h) (k.t.h i) (OwF.at e r k.t.t)
theorem OwL.at (e : Sub B B') : ∀ {v : List V} {t : List T} {F : List Addr}, OwL Γ B H v t F → At H H' F → OwL Γ B' H' v t F
  | _, _, _, .nil, _ => .nil
  | _, _, _, .cons h r, k => .cons (Ow.at e h k.l) (OwL.at e r k.r)
theorem OwK.at (e : Sub B B') : ∀ {v : List (Key × V)} {t : List (D × T)} {F : List Addr}, OwK Γ B H v t F → At H H' F → OwK Γ B' H' v t F
  | _, _, _, .nil, _ => .nil
  | _, _, _, .cons h r, k => .cons (Ow.at e h k.l) (OwK.at e r k.r)
theorem OwU.at (e : Sub B B') : ∀ {v : List (List Key × V)} {t : List (D × T)} {F : List Addr}, OwU Γ B H v t F → At H H' F → OwU Γ B' H' v t F
  | _, _, _, .nil, _ => .nil
  | _, _, _, .cons h r, k => .cons (Ow.at e h k.l) (OwU.at e r k.r)
theorem OwF.at (e : Sub B B') : ∀ {v : List (Str × V)} {t : List (Str × T)} {F : List Addr}, OwF Γ B H v t F → At H H' F → OwF Γ B' H' v t F
  | _, _, _, .nil, _ => .nil
  | _, _, _, .cons h r, k => .cons (Ow.at e h k.l) (OwF.at e r k.r)
end
mutual
/-- as data, where its own objects stand in B' too -/
theorem Ow.frz (e : Sub B B') : ∀ {v : V} {t : T} {F : List Addr}, Ow Γ B H v t F → At H B' F → Rp Γ B' v t.toD
  | _, _, _, .imm h, _ => h.mono Γ e
  | _, _, _, .lst h r, k => .lst (k.h h) (OwL.frz e r k.t)
  | _, _, _, .dK h r, k => .dK (.inl (k.h h)) (OwK.frz e r k.t)
  | _, _, _, .dT h r, k => .dT (.inl (k.h h)) (OwU.frz e r k.t)
  | _, _, _, .obj h i r, k => .obj (k.h h) (OwF.frz e r k.t.t)
theorem OwL.frz (e : Sub B B') : ∀ {v : List V} {t : List T} {F : List Addr}, OwL Γ B H v t F → At H B' F → RpL Γ B' v (T.toDs t)
  | _, _, _, .nil, _ => .nil
  | _, _, _, .cons h r, k => .cons (Ow.frz e h k.l) (OwL.frz e r k.r)
theorem OwK.frz (e : Sub B B') : ∀ {v : List (Key × V)} {t : List (D × T)} {F : List Addr}, OwK Γ B H v t F → At H B' F → RpK Γ B' v (T.toKs t)
  | _, _, _, .nil, _ => .nil
  | _, _, _, .cons h r, k => .cons (Ow.frz e h k.l) (OwK.frz e r k.r)
theorem OwU.frz (e : Sub B B') : ∀ {v : List (List Key × V)} {t : List (D × T)} {F : List Addr}, OwU Γ B H v t F → At H B' F → RpU Γ B' v (T.toKs t)
  | _, _, _, .nil, _ => .nil
  | _, _, _, .cons h r, k => .cons (Ow.frz e h k.l) (OwU.frz e r k.r)
theorem OwF.frz (e : Sub B B') : ∀ {v : List (Str × V)} {t : List (Str × T)} {F : List Addr}, OwF Γ B H v t F → At H B' F → RpF Γ B' v (T.toFs t)
  | _, _, _, .nil, _ => .nil
  | _, _, _, .cons h r, k => .cons (Ow.frz e h k.l) (OwF.frz e r k.r)
end
mutual
/-- its own objects are there -/
theorem Ow.there : ∀ {v : V} {t : T} {F : List Addr}, Ow Γ B H v t F → ∀ a ∈ F, H a ≠ none
  | _, _, _, .imm h, _, m => nomatch m
  | _, _, _, .lst h r, a, m => by
    rcases List.mem_cons.mp m with rfl | m
    · rw [h]; exact fun z => by cases z
    · exact OwL.there r a m
  | _, _, _, .dK h r, a, m => by
    rcases List.mem_cons.mp m with rfl | m
    · rw [h]; exact fun z => by cases z
    · exact OwK.there r a m
  | _, _, _, .dT h r, a, m => by
    rcases List.mem_cons.mp m with rfl | m
    · rw [h]; exact fun z => by cases z
    · exact OwU.there r a m
  | _, _, _, .obj h i r, a, m => by
    rcases List.mem_cons.mp m with rfl | m
    · rw [h]; exact fun z => by cases z
    · rcases List.mem_cons.mp m with rfl | m
      · rw [i]; exact fun z => by cases z
      · exact OwF.there r a m
theorem OwL.there : ∀ {v : List V} {t : List T} {F : List Addr}, OwL Γ B H v t F → ∀ a ∈ F, H a ≠ none
  | _, _, _, .nil, _, m => nomatch m
  | _, _, _, .cons h r, a, m => (List.mem_append.mp m).elim (Ow.there h a) (OwL.there r a)
theorem OwK.there : ∀ {v : List (Key × V)} {t : List (D × T)} {F : List Addr}, OwK Γ B H v t F → ∀ a ∈ F, H a ≠ none
  | _, _, _, .nil, _, m => nomatch m
  | _, _, _, .cons h r, a, m => (List.mem_append.mp m).elim (Ow.there h a) (OwK.there r a)
theorem OwU.there : ∀ {v : List (List Key × V)} {t : List (D × T)} {F : List Addr}, OwU Γ B H v t F → ∀ a ∈ F, H a ≠ none
  | _, _, _, .nil, _, m => nomatch m
  | _, _, _, .cons h r, a, m => (List.mem_append.mp m).elim (Ow.there h a) (OwU.there r a)
theorem OwF.there : ∀ {v : List (Str × V)} {t : List (Str × T)} {F : List Addr}, OwF Γ B H v t F → ∀ a ∈ F, H a ≠ none
  | _, _, _, .nil, _, m => nomatch m
  | _, _, _, .cons h r, a, m => (List.mem_append.mp m).elim (Ow.there h a) (OwF.there r a)
end
end
end G
set_option Elab.async false
set_option linter.all false
set_option maxRecDepth 100000
/-! States and how code goes from one to the next. -/
namespace G
open PySem L2

variable (Γ : Wh)
/-- the names' values are what st tells; F: all that is owned -/
inductive Sl (B H : Hp) : L2.St → G.St → List Addr → Prop
  | nil : Sl B H [] [] []
  | skip {x : Option V} {σ : L2.St} {st : G.St} {F : List Addr} : Sl B H σ st F → Sl B H (x :: σ) (none :: st) F
  | cons {v : V} {t : T} {σ : L2.St} {st : G.St} {F G : List Addr} : Ow Γ B H v t G → Sl B H σ st F → Sl B H (some v :: σ) (some t :: st) (G ++ F)
structure Stt (B H : Hp) (σ : L2.St) (st : G.St) (F : List Addr) : Prop where
  ex : Sub B H
  sl : Sl Γ B H σ st F
  nd : F.Nodup
  fr : ∀ a ∈ F, B a = none
/-- from heap H (data in B, owned F) to H' (B', F') -/
structure Upd (B H : Hp) (F : List Addr) (B' H' : Hp) (F' : List Addr) : Prop where
  b : Sub B B'
  keep : ∀ a o, H a = some o → a ∉ F → H' a = some o
  dom : ∀ a, H a ≠ none → H' a ≠ none
  new : ∀ a ∈ F', a ∈ F ∨ H a = none
  frz : ∀ a o, B' a = some o → B a = some o ∨ a ∈ F ∨ H a = none
section
variable {Γ}
variable {B H B' H' B1 H1 B2 H2 : Hp} {σ : L2.St} {st : G.St} {F F' F1 F2 F3 F4 G' : List Addr}
theorem Upd.refl : Upd B H F B H F := ⟨Sub.refl B, fun _ _ h _ => h, fun _ h => h, fun _ h => .inl h, fun _ _ h => .inl h⟩
theorem Upd.back (u : Upd B H F B' H' F') {a : Addr} (h : H' a = none) : H a = none := by
  cases q : H a with
  | none => rfl
  | some o => exact absurd h (u.dom a (by rw [q]; exact fun z => by cases z))
theorem Upd.comp (u : Upd B H F B1 H1 F1) (w : Upd B1 H1 F2 B2 H2 F3) (s : ∀ a ∈ F2, a ∈ F1) (t : ∀ a ∈ F4, a ∈ F3 ∨ a ∈ F1) : Upd B H F B2 H2 F4 where
  b := u.b.trans w.b
  keep := fun a o h n => w.keep a o (u.keep a o h n) fun m => by
    rcases u.new a (s a m) with q | q
    · exact n q
    · rw [q] at h; cases h
  dom := fun a h => w.dom a (u.dom a h)
  new := fun a m => by
    rcases t a m with m | m
    · rcases w.new a m with q | q
      · exact u.new a (s a q)
      · exact .inr (u.back q)
    · exact u.new a m
  frz := fun a o h => by
    rcases w.frz a o h with q | q | q
    · exact u.frz a o q
    · exact .inr (u.new a (s a q))
    · exact .inr (.inr (u.back q))
theorem Upd.trans (u : Upd B H F B1 H1 F1) (w : Upd B1 H1 F1 B2 H2 F2) : Upd B H F B2 H2 F2 := u.comp w (fun _ h => h) fun _ h => .inl h
theorem Upd.weak (u : Upd B H F B1 H1 F1) (s : ∀ a ∈ F2, a ∈ F1) : Upd B H F B1 H1 F2 := ⟨u.b, u.keep, u.dom, fun a m => u.new a (s a m), u.frz⟩
/-- what is owned aside of F stands -/
theorem Upd.at (u : Upd B H F B' H' F') (d : ∀ a ∈ G', a ∉ F) : At H H' G' := fun a m o h => u.keep a o h (d a m)
theorem Upd.frB (u : Upd B H F B' H' F') (d : ∀ a ∈ G', a ∉ F) (f : ∀ a ∈ G', B a = none) (t : ∀ a ∈ G', H a ≠ none) : ∀ a ∈ G', B' a = none := fun a m => by
  cases q : B' a with
  | none => rfl
  | some o =>
    rcases u.frz a o q with z | z | z
    · rw [f a m] at z; cases z
    · exact (d a m z).elim
    · exact (t a m z).elim
theorem Upd.apart (u : Upd B H F B' H' F') (d : ∀ a ∈ G', a ∉ F) (t : ∀ a ∈ G', H a ≠ none) : ∀ a ∈ G', a ∉ F' := fun a m z => by
  rcases u.new a z with q | q
  · exact d a m q
  · exact t a m q

theorem nd_app {A C : List Addr} : (A ++ C).Nodup ↔ A.Nodup ∧ C.Nodup ∧ ∀ a ∈ A, a ∉ C := by
  rw [List.nodup_append]
  exact ⟨fun ⟨a, b, c⟩ => ⟨a, b, fun x m z => c x m x z rfl⟩, fun ⟨a, b, c⟩ => ⟨a, b, fun x m y n e => c x m (e ▸ n)⟩⟩
theorem nd_mid1 {A C E : List Addr} (h : (A ++ (C ++ E)).Nodup) : (C ++ (A ++ E)).Nodup := by
  have h1 := nd_app.mp h
  have h2 := nd_app.mp h1.2.1
  refine nd_app.mpr ⟨h2.1, nd_app.mpr ⟨h1.1, h2.2.1, fun x m z => h1.2.2 x m (List.mem_append_right _ z)⟩, fun x m z => ?_⟩
  rcases List.mem_append.mp z with z | z
  · exact h1.2.2 x z (List.mem_append_left _ m)
  · exact h2.2.2 x m z
theorem nd_mid {A C E : List Addr} : (A ++ (C ++ E)).Nodup ↔ (C ++ (A ++ E)).Nodup := ⟨nd_mid1, nd_mid1⟩

theorem Sl.len (h : Sl Γ B H σ st F) : σ.length = st.length := by
  induction h with
  | nil => rfl
  | skip _ ih => simp [ih]
  | cons _ _ ih => simp [ih]
theorem Sl.at (e : Sub B B') (h : Sl Γ B H σ st F) : At H H' F → Sl Γ B' H' σ st F := by
  induction h with
  | nil => exact fun _ => .nil
  | skip _ ih => exact fun k => .skip (ih k)
  | cons o _ ih => exact fun k => .cons (o.at e k.l) (ih k.r)
theorem Sl.there (h : Sl Γ B H σ st F) : ∀ a ∈ F, H a ≠ none := by
  induction h with
  | nil => exact fun _ m => nomatch m
  | skip _ ih => exact ih
  | cons o _ ih => exact fun a m => (List.mem_append.mp m).elim (o.there a) (ih a)
/-- what stands at a name, and how it is stored anew -/
theorem Sl.open (h : Sl Γ B H σ st F) : ∀ {i : Nat}, i < st.length → ∃ F1 G F2, F = F1 ++ (G ++ F2) ∧ (∀ t, st[i]? = some (some t) → ∃ v, σ[i]? = some (some v) ∧ Ow Γ B H v t G) ∧
    ∀ B' H', Sub B B' → At H H' (F1 ++ F2) → (∀ v' t' G', Ow Γ B' H' v' t' G' → Sl Γ B' H' (σ.set i (some v')) (st.set i (some t')) (F1 ++ (G' ++ F2))) ∧ ∀ x, Sl Γ B' H' (σ.set i x) (st.set i none) (F1 ++ F2) := by
  induction h with
  | nil => intro i hi; exact absurd hi (Nat.not_lt_zero _)
  | @skip x σ st F hs ih =>
    intro i hi
    cases i with
    | zero =>
      refine ⟨[], [], F, rfl, fun t e => by simp at e, fun B' H' e k => ⟨fun v' t' G' o => ?_, fun x => ?_⟩⟩
      · show Sl Γ B' H' (some v' :: σ) (some t' :: st) (G' ++ F)
        exact .cons o (hs.at e k)
      · exact .skip (hs.at e k)
    | succ i =>
      obtain ⟨F1, G, F2, rfl, g, p⟩ := ih (i := i) (by simpa using hi)
      exact ⟨F1, G, F2, rfl, g, fun B' H' e k => ⟨fun v' t' G' o => .skip ((p B' H' e k).1 v' t' G' o), fun x => .skip ((p B' H' e k).2 x)⟩⟩
  | @cons v t σ st F G o hs ih =>
    intro i hi
    cases i with
    | zero =>
      refine ⟨[], G, F, rfl, fun t' e => ?_, fun B' H' e k => ⟨fun v' t' G' o => ?_, fun x => ?_⟩⟩
      · have e' : t = t' := by simpa using e
        subst e'
        exact ⟨v, rfl, o⟩
      · show Sl Γ B' H' (some v' :: σ) (some t' :: st) (G' ++ F)
        exact .cons o (hs.at e k)
      · exact .skip (hs.at e k)
    | succ i =>
      obtain ⟨F1, G', F2, rfl, g, p⟩ := ih (i := i) (by simpa using hi)
      refine ⟨G ++ F1, G', F2, by simp only [List.append_assoc], g, fun B' H' e k => ?_⟩
      rw [List.append_assoc] at k
      refine ⟨fun v' t' G2 o' => ?_, fun x => ?_⟩
      · rw [List.append_assoc]
        exact .cons (o.at e k.l) ((p B' H' e k.r).1 v' t' G2 o')
      · rw [List.append_assoc]
        exact .cons (o.at e k.l) ((p B' H' e k.r).2 x)
theorem Stt.there (s : Stt Γ B H σ st F) : ∀ a ∈ F, H a ≠ none := s.sl.there
end

/-! ### where an expression, a statement ends -/
structure PostS (B H : Hp) (F : List Addr) (σ : L2.St) (st' : G.St) (H' B' : Hp) (F' : List Addr) : Prop where
  s : Stt Γ B' H' σ st' F'
  u : Upd B H F B' H' F'
structure PostV (B H : Hp) (F : List Addr) (σ : L2.St) (t : T) (st' : G.St) (v : V) (H' B' : Hp) (G F' : List Addr) : Prop where
  s : Stt Γ B' H' σ st' F'
  o : Ow Γ B' H' v t G
  nd : (G ++ F').Nodup
  fr : ∀ a ∈ G, B' a = none
  u : Upd B H F B' H' (G ++ F')
/-- a new value of an operation -/
structure NewV (B H : Hp) (t : T) (v : V) (H' B' : Hp) (G : List Addr) : Prop where
  ex : Sub B' H'
  o : Ow Γ B' H' v t G
  nd : G.Nodup
  fr : ∀ a ∈ G, B' a = none
  u : Upd B H [] B' H' G
def XRep (B : Hp) (cls : Value) (d : Option Addr) (x : G.X) : Prop := cls = .ref (Γ.xc x.cls) ∧
  match x.fs with
  | [] => d = none
  | fs => ∃ a fvs, d = some a ∧ B a = some (.xd fvs) ∧ RpF Γ B fvs fs
structure PostX (B H : Hp) (F : List Addr) (σ : L2.St) (x : G.X) (st' : G.St) (cls : Value) (d : Option Addr) (H' B' : Hp) (F' : List Addr) : Prop where
  s : PostS Γ B H F σ st' H' B' F'
  x : XRep Γ B' cls d x
section
variable {Γ}
variable {B H B' H' B1 H1 B2 H2 : Hp} {σ : L2.St} {st st1 st2 : G.St} {F F' F1 F2 F3 F4 G1 G2 : List Addr} {t t1 t2 : T} {v v1 v2 : V}
theorem PostS.trans (p : PostS Γ B H F σ st1 H1 B1 F1) (q : PostS Γ B1 H1 F1 σ st2 H2 B2 F2) : PostS Γ B H F σ st2 H2 B2 F2 := ⟨q.s, p.u.trans q.u⟩
theorem PostS.refl (s : Stt Γ B H σ st F) : PostS Γ B H F σ st H B F := ⟨s, .refl⟩
theorem PostX.after {x : G.X} {cls : Value} {d : Option Addr} (p : PostS Γ B H F σ st1 H1 B1 F1) (q : PostX Γ B1 H1 F1 σ x st2 cls d H2 B2 F2) : PostX Γ B H F σ x st2 cls d H2 B2 F2 := ⟨p.trans q.s, q.x⟩
theorem PostV.after (p : PostS Γ B H F σ st1 H1 B1 F1) (q : PostV Γ B1 H1 F1 σ t st2 v H2 B2 G2 F2) : PostV Γ B H F σ t st2 v H2 B2 G2 F2 := ⟨q.s, q.o, q.nd, q.fr, p.u.trans q.u⟩
theorem PostV.drop (p : PostV Γ B H F σ t st1 v H1 B1 G1 F1) : PostS Γ B H F σ st1 H1 B1 F1 := ⟨p.s, p.u.weak fun a m => List.mem_append_right _ m⟩
/-- data B, and of H what stands at F -/
def frzB (B H : Hp) (F : List Addr) : Hp := fun a => if a ∈ F then H a else B a
theorem frzB_sub (e : Sub B H) : Sub B (frzB B H F) := fun a o h => by
  unfold frzB
  split
  · exact e a o h
  · exact h
theorem frzB_ex (e : Sub B H) : Sub (frzB B H F) H := fun a o h => by
  unfold frzB at h
  split at h
  · exact h
  · exact e a o h
theorem frzB_at : At H (frzB B H F) F := fun a m o h => by
  unfold frzB
  rw [if_pos m]
  exact h
theorem frzB_none {a : Addr} (h : B a = none) (n : a ∉ F) : frzB B H F a = none := by
  unfold frzB
  rw [if_neg n]
  exact h
/-- the value as data from here on -/
theorem PostV.frz (p : PostV Γ B H F σ t st1 v H1 B1 G1 F1) : ∃ B2, Rp Γ B2 v t.toD ∧ PostS Γ B H F σ st1 H1 B2 F1 := by
  have nd := nd_app.mp p.nd
  refine ⟨frzB B1 H1 G1, p.o.frz (frzB_sub p.s.ex) frzB_at, ⟨frzB_ex p.s.ex, p.s.sl.at (frzB_sub p.s.ex) fun _ _ _ h => h, p.s.nd, fun a m => frzB_none (p.s.fr a m) fun z => nd.2.2 a z m⟩, ?_⟩
  refine ⟨p.u.b.trans (frzB_sub p.s.ex), p.u.keep, p.u.dom, fun a m => p.u.new a (List.mem_append_right _ m), fun a o h => ?_⟩
  unfold frzB at h
  split at h
  · rename_i m
    rcases p.u.new a (List.mem_append_left _ m) with q | q
    · exact .inr (.inl q)
    · exact .inr (.inr q)
  · exact p.u.frz a o h
theorem PostV.imm {d : D} (p : PostS Γ B H F σ st1 H1 B1 F1) (r : Rp Γ B1 v d) : PostV Γ B H F σ (.imm d) st1 v H1 B1 [] F1 := ⟨p.s, .imm r, by simpa using p.s.nd, fun _ m => (nomatch m), p.u⟩
/-- an operation's new value behind -/
theorem NewV.post (p : PostS Γ B H F σ st1 H1 B1 F1) (n : NewV Γ B1 H1 t v H2 B2 G2) : PostV Γ B H F σ t st1 v H2 B2 G2 F1 := by
  have ap : ∀ a ∈ F1, a ∉ G2 := n.u.apart (fun _ _ z => nomatch z) p.s.there
  refine ⟨⟨n.ex, p.s.sl.at n.u.b (n.u.at fun _ _ z => nomatch z), p.s.nd, n.u.frB (fun _ _ z => nomatch z) p.s.fr p.s.there⟩, n.o, nd_app.mpr ⟨n.nd, p.s.nd, fun a m z => ap a z m⟩, n.fr, ?_⟩
  exact p.u.comp n.u (fun _ z => nomatch z) fun a m => List.mem_append.mp m
theorem NewV.imm {d : D} (e : Sub B H) (r : Rp Γ B v d) : NewV Γ B H (.imm d) v H B [] := ⟨e, .imm r, .nil, fun _ m => (nomatch m), .refl⟩
/-- a new object of data -/
theorem upd_newB {p : Addr} {o : HO} (e : Sub B H) (h : H p = none) : Upd B H [] (upd B p o) (upd H p o) [] where
  b := Sub.new (e.none h)
  keep := fun a u q _ => Sub.new h a u q
  dom := fun a q => by
    by_cases z : a = p
    · rw [z, upd_same]; exact fun y => by cases y
    · rw [upd_ne z]; exact q
  new := fun _ m => nomatch m
  frz := fun a u q => by
    by_cases z : a = p
    · exact .inr (.inr (by rw [z]; exact h))
    · rw [upd_ne z] at q; exact .inl q
theorem sub_both {p : Addr} {o : HO} (e : Sub B H) : Sub (upd B p o) (upd H p o) := fun a u q => by
  by_cases z : a = p
  · rw [z, upd_same] at q; rw [z, upd_same]; exact q
  · rw [upd_ne z] at q; rw [upd_ne z]; exact e a u q
theorem NewV.obj {d : D} {p : Addr} {o : HO} (e : Sub B H) (h : H p = none) (r : Rp Γ (upd B p o) v d) : NewV Γ B H (.imm d) v (upd H p o) (upd B p o) [] := ⟨sub_both e, .imm r, .nil, fun _ m => (nomatch m), upd_newB e h⟩
/-- a new owned object -/
theorem upd_newH {p : Addr} {o : HO} (h : H p = none) : Upd B H [] B (upd H p o) [p] where
  b := Sub.refl B
  keep := fun a u q _ => Sub.new h a u q
  dom := fun a q => by
    by_cases z : a = p
    · rw [z, upd_same]; exact fun y => by cases y
    · rw [upd_ne z]; exact q
  new := fun a m => by rw [List.mem_singleton.mp m]; exact .inr h
  frz := fun a u q => .inl q
end

/-! ### the readings -/
def RunP {α : Type} (r : R α) (K : α → G.St → Prop) (KX : G.X → G.St → Prop) : Prop := match r with
  | .no => False
  | .ok a st => K a st
  | .ex x st => KX x st
theorem run_bind {α β : Type} {r : R α} {k : α → Sm β} {K : β → G.St → Prop} {KX : G.X → G.St → Prop} : RunP (r.bind k) K KX = RunP r (fun a st => RunP (k a st) K KX) KX := by cases r <;> rfl
theorem RunP.mono {α : Type} {r : R α} {K K' : α → G.St → Prop} {KX KX' : G.X → G.St → Prop} (h : RunP r K KX) (k : ∀ a st, K a st → K' a st) (kx : ∀ x st, KX x st → KX' x st) : RunP r K' KX' := by
  cases r with
  | no => exact h
  | ok a st => exact k a st h
  | ex x st => exact kx x st h
def OutX (W : L2.WX) (B H : Hp) (F : List Addr) (σ : L2.St) : G.X → G.St → Prop := fun x st' => ∀ cls d H' B' F', PostX Γ B H F σ x st' cls d H' B' F' → W cls d σ H'
theorem OutX.after {Γ : Wh} {W : L2.WX} {B H B1 H1 : Hp} {F F1 : List Addr} {σ : L2.St} {st1 : G.St} (p : PostS Γ B H F σ st1 H1 B1 F1) {x : G.X} {st' : G.St} (h : OutX Γ W B H F σ x st') : OutX Γ W B1 H1 F1 σ x st' :=
  fun cls d H' B' F' q => h cls d H' B' F' (PostX.after p q)
def tSm (W : L2.WX) (m : Sm T) : TE := fun σ H Q => ∃ B st F, Stt Γ B H σ st F ∧ RunP (m st) (fun t st' => ∀ v H' B' G F', PostV Γ B H F σ t st' v H' B' G F' → Q v H') (OutX Γ W B H F σ)
def tBm (W : L2.WX) (m : Sm Bool) : TT := fun σ H Q => ∃ B st F, Stt Γ B H σ st F ∧ RunP (m st) (fun b st' => ∀ H' B' F', PostS Γ B H F σ st' H' B' F' → Q b H') (OutX Γ W B H F σ)
/-- the lent names -/
inductive Lent (σ : L2.St) : List V → List (Option Nat) → Prop
  | nil : Lent σ [] []
  | val {v : V} {vs : List V} {ls : List (Option Nat)} : Lent σ vs ls → Lent σ (v :: vs) (none :: ls)
  | lend {i : Nat} {v : V} {vs : List V} {ls : List (Option Nat)} : σ[i]? = some (some v) → Lent σ vs ls → Lent σ (v :: vs) (some i :: ls)
structure PostA (B H : Hp) (F : List Addr) (σ : L2.St) (ts : List T) (ls : List (Option Nat)) (st' : G.St) (vs : List V) (H' B' : Hp) (G F' : List Addr) : Prop where
  s : Stt Γ B' H' σ st' F'
  o : OwL Γ B' H' vs ts G
  nd : (G ++ F').Nodup
  fr : ∀ a ∈ G, B' a = none
  u : Upd B H F B' H' (G ++ F')
  l : Lent σ vs ls
def tAm (W : L2.WX) (m : Sa) : TA := fun σ H Q => ∃ B st F, Stt Γ B H σ st F ∧ RunP (m st) (fun p st' => ∀ vs H' B' G F', PostA Γ B H F σ p.1 p.2 st' vs H' B' G F' → Q vs H') (OutX Γ W B H F σ)
section
variable {Γ}
variable {X : Cx} {e : Expr} {es : List Expr} {t t' : TE} {tt tt' : TT} {ta ta' : TA}
theorem PE.weak (h : PE X e t) (k : ∀ σ H Q, t' σ H Q → t σ H Q) : PE X e t' := ⟨fun pins s σ H Q I q => h.run pins s σ H Q I (k σ H Q q)⟩
theorem PT.weak (h : PT X e tt) (k : ∀ σ H Q, tt' σ H Q → tt σ H Q) : PT X e tt' := ⟨fun pins s σ H Q I q => h.run pins s σ H Q I (k σ H Q q)⟩
theorem PA.weak (h : PA X es ta) (k : ∀ σ H Q, ta' σ H Q → ta σ H Q) : PA X es ta' := ⟨fun pos pins s σ H Q I q => h.run pos pins s σ H Q I (k σ H Q q)⟩
theorem PS.weak {st : Stmt} {t t' : TS} (h : PS X st t) (k : ∀ D σ H, t' D σ H → t D σ H) : PS X st t' := ⟨fun pins s σ H D I q => h.run pins s σ H D I (k D σ H q)⟩
theorem PSs.weak {st : List Stmt} {t t' : TS} (h : PSs X st t) (k : ∀ D σ H, t' D σ H → t D σ H) : PSs X st t' := ⟨fun pins s σ H D I q => h.run pins s σ H D I (k D σ H q)⟩
theorem PG.weak {t t' : TG} (h : PG X e t) (k : ∀ v σ H Q, t' v σ H Q → t v σ H Q) : PG X e t' := ⟨fun pins s σ H v u Q I r q => h.run pins s σ H v u Q I r (k v σ H Q q)⟩
theorem PI.weak {tg : Expr} {t t' : TI} (h : PI X tg e t) (k : ∀ σ H R, t' σ H R → t σ H R) : PI X tg e t' := ⟨fun pins s σ H R I q => h.run pins s σ H R I (k σ H R q)⟩
end
end G
set_option Elab.async false
set_option linter.all false
set_option maxRecDepth 100000
/-! Expressions: one rule a construct. -/
namespace G
open PySem L2
section
variable {Γ : Wh}
variable {B H B' H' B1 H1 B2 H2 : Hp} {σ : L2.St} {st st1 st2 : G.St} {F F' F1 F2 F3 F4 G1 G2 : List Addr} {t t1 t2 : T} {v v1 v2 : V} {W : L2.WX}

theorem set_self {α : Type} : ∀ {l : List α} {i : Nat} {x : α}, l[i]? = some x → l.set i x = l
  | [], _, _, h => by simp at h
  | a :: r, 0, x, h => by
    have e : a = x := by simpa using h
    rw [e]; rfl
  | a :: r, i + 1, x, h => by
    have e := set_self (l := r) (i := i) (x := x) (by simpa using h)
    show a :: r.set i x = a :: r
    rw [e]
theorem at_self : At H H F := fun _ _ _ h => h
theorem lt_of_some {α : Type} {l : List α} {i : Nat} {x : α} (h : l[i]? = some x) : i < l.length := (List.getElem?_eq_some_iff.mp h).1
/-- a name's thing as data from here on -/
theorem Stt.freeze {i : Nat} (S : Stt Γ B H σ st F) (h : st[i]? = some (some t)) : ∃ v B2 F', σ[i]? = some (some v) ∧ Rp Γ B2 v t.toD ∧ PostS Γ B H F σ (st.set i (some (.imm t.toD))) H B2 F' := by
  obtain ⟨F1, G, F2, rfl, g, p⟩ := S.sl.open (lt_of_some h)
  obtain ⟨v, hv, o⟩ := g t h
  have nd := nd_mid.mp S.nd
  have nd2 := nd_app.mp nd
  have q := (p (frzB B H G) H (frzB_sub S.ex) at_self).1 v (.imm t.toD) [] (.imm (o.frz (frzB_sub S.ex) frzB_at))
  rw [set_self hv] at q
  refine ⟨v, frzB B H G, F1 ++ F2, hv, o.frz (frzB_sub S.ex) frzB_at, ⟨frzB_ex S.ex, q, nd2.2.1, fun a m => frzB_none (S.fr a ?_) fun z => nd2.2.2 a z m⟩, ?_⟩
  · rcases List.mem_append.mp m with m | m
    · exact List.mem_append_left _ m
    · exact List.mem_append_right _ (List.mem_append_right _ m)
  · refine ⟨frzB_sub S.ex, fun a o h _ => h, fun a h => h, fun a m => .inl ?_, fun a u h => ?_⟩
    · rcases List.mem_append.mp m with m | m
      · exact List.mem_append_left _ m
      · exact List.mem_append_right _ (List.mem_append_right _ m)
    · unfold frzB at h
      split at h
      · rename_i m
        exact .inr (.inl (List.mem_append_right _ (List.mem_append_left _ m)))
      · exact .inl h
/-- a name's thing taken away -/
theorem Stt.take {i : Nat} (S : Stt Γ B H σ st F) (h : st[i]? = some (some t)) : ∃ v G F', σ[i]? = some (some v) ∧ PostV Γ B H F σ t (st.set i none) v H B G F' := by
  obtain ⟨F1, G, F2, rfl, g, p⟩ := S.sl.open (lt_of_some h)
  obtain ⟨v, hv, o⟩ := g t h
  have nd := nd_mid.mp S.nd
  have nd2 := nd_app.mp nd
  have q := (p B H (Sub.refl B) at_self).2 (some v)
  rw [set_self hv] at q
  have sub1 : ∀ a ∈ F1 ++ F2, a ∈ F1 ++ (G ++ F2) := fun a m => by
    rcases List.mem_append.mp m with m | m
    · exact List.mem_append_left _ m
    · exact List.mem_append_right _ (List.mem_append_right _ m)
  refine ⟨v, G, F1 ++ F2, hv, ⟨S.ex, q, nd2.2.1, fun a m => S.fr a (sub1 a m)⟩, o, nd, fun a m => S.fr a (List.mem_append_right _ (List.mem_append_left _ m)), Upd.refl.weak fun a m => ?_⟩
  rcases List.mem_append.mp m with m | m
  · exact List.mem_append_right _ (List.mem_append_left _ m)
  · exact sub1 a m
/-- a value stored under a name -/
theorem PostV.put {i : Nat} (p : PostV Γ B H F σ t st1 v H1 B1 G1 F1) (hi : i < st1.length) : ∃ F2, PostS Γ B H F (σ.set i (some v)) (st1.set i (some t)) H1 B1 F2 := by
  obtain ⟨A, G, C, rfl, g, q⟩ := p.s.sl.open hi
  have sub : ∀ a ∈ A ++ (G1 ++ C), a ∈ G1 ++ (A ++ (G ++ C)) := fun a m => by
    simp only [List.mem_append] at m ⊢
    rcases m with m | m | m
    · exact .inr (.inl m)
    · exact .inl m
    · exact .inr (.inr (.inr m))
  have s := (q B1 H1 (Sub.refl B1) at_self).1 v t G1 p.o
  have nd := nd_app.mp p.nd
  have nd2 := nd_app.mp (nd_mid.mp nd.2.1)
  refine ⟨A ++ (G1 ++ C), ⟨p.s.ex, s, nd_mid.mpr (nd_app.mpr ⟨nd.1, nd2.2.1, fun a m z => nd.2.2 a m ?_⟩), fun a m => ?_⟩, p.u.weak sub⟩
  · rcases List.mem_append.mp z with z | z
    · exact List.mem_append_left _ z
    · exact List.mem_append_right _ (List.mem_append_right _ z)
  · rcases List.mem_append.mp (sub a m) with m | m
    · exact p.fr a m
    · exact p.s.fr a m

/-! ### names, constants -/
theorem e_var {i : Nat} {Q : VK} (h : tSm Γ W (sVar i) σ H Q) : tVar i σ H Q := by
  obtain ⟨B, st, F, S, h⟩ := h
  unfold sVar at h
  cases e : st[i]? with
  | none => rw [e] at h; exact h.elim
  | some o =>
    cases o with
    | none => rw [e] at h; exact h.elim
    | some t =>
      rw [e] at h
      obtain ⟨v, B2, F', hv, r, p⟩ := S.freeze e
      refine ⟨v, hv, ?_⟩
      cases t with
      | imm d =>
        obtain ⟨F1, G, F2, rfl, g, _⟩ := S.sl.open (lt_of_some e)
        obtain ⟨v', hv', o⟩ := g _ e
        rw [hv] at hv'
        cases hv'
        cases o with
        | imm r' => exact h v H B [] _ (PostV.imm (PostS.refl S) r')
      | lst l => exact h v H B2 [] F' (PostV.imm p r)
      | dct k l => exact h v H B2 [] F' (PostV.imm p r)
      | obj c l => exact h v H B2 [] F' (PostV.imm p r)
theorem e_mv {i : Nat} {Q : VK} (h : tSm Γ W (sMv i) σ H Q) : tVar i σ H Q := by
  obtain ⟨B, st, F, S, h⟩ := h
  unfold sMv at h
  cases e : st[i]? with
  | none => rw [e] at h; exact h.elim
  | some o =>
    cases o with
    | none => rw [e] at h; exact h.elim
    | some t =>
      rw [e] at h
      obtain ⟨v, G, F', hv, p⟩ := S.take e
      exact ⟨v, hv, h v H B G F' p⟩
/-- a value that is nothing but itself -/
def pureD (v : V) (d : D) : Prop := ∀ B, Rp Γ B v d
theorem e_cst {d : D} {Q : VK} (c : pureD (Γ := Γ) v d) (h : tSm Γ W (sCst d) σ H Q) : tC v σ H Q := by
  obtain ⟨B, st, F, S, h⟩ := h
  exact h v H B [] F (PostV.imm (PostS.refl S) (c B))
section
variable {X : Cx} {a b c : Expr} {ma mb mc : Sm T} {pos : Pos}
theorem ge_var (i : Nat) {x : Str} (hN : X.N[i]? = some x := by rfl) (hv : Vis X.env.scope x := by first | exact Or.inl rfl | exact Or.inr (Or.inl rfl) | exact Or.inr (Or.inr rfl)) (hd : (x == ("__debug__" : Str)) = false := by decide)
    (hcd : (x == ("__classdict__" : Str)) = false := by decide) : PE X (.Name x pos) (tSm Γ W (sVar i)) := PE.weak (pe_var hN hv hd hcd) fun _ _ _ => e_var
theorem ge_mv (i : Nat) {x : Str} (hN : X.N[i]? = some x := by rfl) (hv : Vis X.env.scope x := by first | exact Or.inl rfl | exact Or.inr (Or.inl rfl) | exact Or.inr (Or.inr rfl)) (hd : (x == ("__debug__" : Str)) = false := by decide)
    (hcd : (x == ("__classdict__" : Str)) = false := by decide) : PE X (.Name x pos) (tSm Γ W (sMv i)) := PE.weak (pe_var hN hv hd hcd) fun _ _ _ => e_mv
theorem ge_int {i : Int} {j : Nat} : PE X (.Constant (.int i) j pos) (tSm Γ W (sCst (.int i))) := PE.weak pe_int fun _ _ _ => e_cst fun _ => .int i
theorem ge_bl {i : Bool} {j : Nat} : PE X (.Constant (.bool i) j pos) (tSm Γ W (sCst (.bl i))) := PE.weak pe_bl fun _ _ _ => e_cst fun _ => .bl i
theorem ge_non {j : Nat} : PE X (.Constant .none j pos) (tSm Γ W (sCst .non)) := PE.weak pe_non fun _ _ _ => e_cst fun _ => .non
theorem ge_str {i : Str} {j : Nat} : PE X (.Constant (.str i) j pos) (tSm Γ W (sCst (.str i))) := PE.weak pe_str fun _ _ _ => e_cst fun _ => .str i
theorem ge_glob {x : Str} {v : V} {u : Value} {d : D} (hg : Gl X x) (hm : X.mg x = some u) (r : RelV v u) (c : pureD (Γ := Γ) v d) (hd : (x == ("__debug__" : Str)) = false := by decide) : PE X (.Name x pos) (tSm Γ W (sCst d)) :=
  PE.weak (pe_glob hg hm r hd) fun _ _ _ => e_cst c

/-! ### operators on data -/
variable (Γ) in
def OpD (r : R2) (f : D → D → Option T) : Prop := ∀ {B H : Hp} {x y : V} {d e : D} {t : T} {Q : VK}, Sub B H → Rp Γ B x d → Rp Γ B y e → f d e = some t → (∀ v H' B' G, NewV Γ B H t v H' B' G → Q v H') → r x y H Q
variable (Γ) in
def UnD (r : V → Hp → VK → Prop) (f : D → Option T) : Prop := ∀ {B H : Hp} {x : V} {d : D} {t : T} {Q : VK}, Sub B H → Rp Γ B x d → f d = some t → (∀ v H' B' G, NewV Γ B H t v H' B' G → Q v H') → r x H Q
variable (Γ) in
def CallD (r : List V → Hp → VK → Prop) (f : List D → Option T) : Prop := ∀ {B H : Hp} {x : List V} {d : List D} {t : T} {Q : VK}, Sub B H → RpL Γ B x d → f d = some t → (∀ v H' B' G, NewV Γ B H t v H' B' G → Q v H') → r x H Q

theorem run_ofO {α : Type} {o : Option α} {K : α → G.St → Prop} {KX : G.X → G.St → Prop} (h : RunP (Sm.ofO o st) K KX) : ∃ a, o = some a ∧ K a st := by
  cases o with
  | none => exact h.elim
  | some a => exact ⟨a, rfl, h⟩
/-- first a, then with its value as data -/
theorem e_then {m : Sm T} {β : Type} {k : D → Sm β} {Q : VK} {K : Hp → Hp → List Addr → β → G.St → Prop} {KX : Hp → Hp → List Addr → G.X → G.St → Prop}
    (hk : KX = fun B H F => OutX Γ W B H F σ)
    (hK : ∀ {B H F B1 H1 F1 st1 b st'}, PostS Γ B H F σ st1 H1 B1 F1 → K B H F b st' → K B1 H1 F1 b st')
    (h : ∃ B st F, Stt Γ B H σ st F ∧ RunP ((m st).bind (fun t => k t.toD)) (K B H F) (KX B H F))
    (n : ∀ v d B1 H1 st1 F1, Rp Γ B1 v d → Stt Γ B1 H1 σ st1 F1 → RunP (k d st1) (K B1 H1 F1) (KX B1 H1 F1) → Q v H1) : tSm Γ W m σ H Q := by
  obtain ⟨B, st, F, S, h⟩ := h
  refine ⟨B, st, F, S, ?_⟩
  subst hk
  rw [run_bind] at h
  refine h.mono (fun t st1 q v H1 B1 G F1 p => ?_) fun _ _ q => q
  obtain ⟨B2, r, ps⟩ := p.frz
  exact n v t.toD B2 H1 st1 F1 r ps.s (q.mono (fun b st' => hK ps) fun x st' => OutX.after ps)
/-- what an operation's end wants -/
def WantV (Q : VK) (σ : L2.St) (B H : Hp) (F : List Addr) : T → G.St → Prop := fun t st' => ∀ v H' B' G F', PostV Γ B H F σ t st' v H' B' G F' → Q v H'
theorem WantV.after {Q : VK} {t : T} {st' : G.St} (p : PostS Γ B H F σ st1 H1 B1 F1) (h : WantV (Γ := Γ) Q σ B H F t st') : WantV (Γ := Γ) Q σ B1 H1 F1 t st' := fun v H' B' G F' q => h v H' B' G F' (q.after p)
theorem e_op2 {r : R2} {f : D → D → Option T} (hd : OpD Γ r f) {Q : VK} (h : tSm Γ W (sOp2 f ma mb) σ H Q) : tOp r (tSm Γ W ma) (tSm Γ W mb) σ H Q := by
  refine e_then (k := fun d => Sm.bind mb fun y => Sm.ofO (f d y.toD)) (K := WantV (Γ := Γ) Q σ) rfl (fun p => WantV.after p) h fun x d B1 H1 st1 F1 rx S1 h1 => ?_
  refine e_then (k := fun e => Sm.ofO (f d e)) (K := fun B H F t st' => Sub B1 B ∧ WantV (Γ := Γ) Q σ B H F t st') rfl (fun p h => ⟨h.1.trans p.u.b, WantV.after p h.2⟩) ⟨B1, st1, F1, S1, ?_⟩ fun y e B2 H2 st2 F2 ry S2 h2 => ?_
  · exact h1.mono (fun t st' q => ⟨Sub.refl _, q⟩) fun _ _ q => q
  · obtain ⟨t, ht, s, q⟩ := run_ofO h2
    exact hd S2.ex (rx.mono Γ s) ry ht fun v H' B' G n => q v H' B' G F2 (n.post (PostS.refl S2))
theorem e_un {r : V → Hp → VK → Prop} {f : D → Option T} (hd : UnD Γ r f) {Q : VK} (h : tSm Γ W (sUn f ma) σ H Q) : tSm Γ W ma σ H (fun x H1 => r x H1 Q) := by
  refine e_then (k := fun d => Sm.ofO (f d)) (K := WantV (Γ := Γ) Q σ) rfl (fun p => WantV.after p) h fun x d B1 H1 st1 F1 rx S1 h1 => ?_
  obtain ⟨t, ht, q⟩ := run_ofO h1
  exact hd S1.ex rx ht fun v H' B' G n => q v H' B' G F1 (n.post (PostS.refl S1))
theorem ge_op2 {op : Operator} {r : R2} {f : D → D → Option T} (ho : OpR X (binaryOp op) r) (hd : OpD Γ r f) (ha : PE X a (tSm Γ W ma)) (hb : PE X b (tSm Γ W mb)) : PE X (.BinOp a op b pos) (tSm Γ W (sOp2 f ma mb)) :=
  PE.weak (pe_op ho ha hb) fun _ _ _ => e_op2 hd
theorem ge_un {op : UnaryOp} {r : V → Hp → VK → Prop} {f : D → Option T} (ho : UnR X (unaryOp op) r) (hd : UnD Γ r f) (ha : PE X a (tSm Γ W ma)) : PE X (.UnaryOp op a pos) (tSm Γ W (sUn f ma)) :=
  PE.weak (pe_un ho ha) fun _ _ _ => e_un hd
theorem ge_cmp {op : CmpOp} {r : R2} {f : D → D → Option T} (ho : OpR X (compareOp op) r) (hd : OpD Γ r f) (ha : PE X a (tSm Γ W ma)) (hb : PE X b (tSm Γ W mb)) (hm : behindInMarks op b = false) : PE X (.Compare a [op] [b] pos) (tSm Γ W (sOp2 f ma mb)) :=
  PE.weak (pe_cmpR ho ha hb hm) fun _ _ _ => e_op2 hd
theorem ge_ix {r : R2} {f : D → D → Option T} (ho : IxR X r) (hd : OpD Γ r f) (ha : PE X a (tSm Γ W ma)) (hb : PE X b (tSm Γ W mb)) (hs : PlainIx b) : PE X (.Subscript a b pos) (tSm Γ W (sOp2 f ma mb)) :=
  PE.weak (pe_ix ho ha hb hs) fun _ _ _ => e_op2 hd
theorem ge_isN {j : Nat} {pos' : Pos} (ha : PE X a (tSm Γ W ma)) (h1 : behindInMarks .Is (.Constant .none j pos') = false := by first | exact nobehind _ (by decide) (by decide) | rfl) : PE X (.Compare a [.Is] [.Constant .none j pos'] pos) (tSm Γ W (sUn fIsN ma)) := PE.weak (pe_cmp (pc_isN ha) h1) fun σ H Q h => by
  refine e_un (r := fun x H1 Q => Q (.bl (decide (x = .non))) H1) (fun {B H x d t Q} s r e n => ?_) h
  cases e
  refine n _ H B [] ?_
  have z : decide (x = V.non) = d.isN := by cases r <;> rfl
  rw [z]
  exact NewV.imm s (.bl _)
theorem ge_notN {j : Nat} {pos' : Pos} (ha : PE X a (tSm Γ W ma)) (h1 : behindInMarks .IsNot (.Constant .none j pos') = false := by first | exact nobehind _ (by decide) (by decide) | rfl) : PE X (.Compare a [.IsNot] [.Constant .none j pos'] pos) (tSm Γ W (sUn fNotN ma)) := PE.weak (pe_cmp (pc_notN ha) h1) fun σ H Q h => by
  refine e_un (r := fun x H1 Q => Q (.bl (!decide (x = .non))) H1) (fun {B H x d t Q} s r e n => ?_) h
  cases e
  refine n _ H B [] ?_
  have z : decide (x = V.non) = d.isN := by cases r <;> rfl
  rw [z]
  exact NewV.imm s (.bl _)

/-! ### tests -/
theorem e_test {te : TE} {m : Sm T} (k : ∀ σ H Q, tSm Γ W m σ H Q → te σ H Q) {Q : Bool → Hp → Prop} (h : tBm Γ W (sTest m) σ H Q) : tTest te σ H Q := by
  refine k σ H _ ?_
  obtain ⟨B, st, F, S, h⟩ := h
  refine ⟨B, st, F, S, ?_⟩
  unfold sTest Sm.bind at h
  rw [run_bind] at h
  refine h.mono (fun t st1 q v H1 B1 G F1 p => ?_) fun _ _ q => q
  obtain ⟨B2, r, ps⟩ := p.frz
  cases e : t.toD with
  | bl b =>
    rw [e] at q r
    cases r
    exact ⟨b, rfl, q H1 B2 F1 ps⟩
  | _ => rw [e] at q; exact q.elim
theorem gt_val (h : PE X a (tSm Γ W ma)) (he : ∀ whole, isTrue a X.env whole = (do let v ← whole; standAt a.pos; holding [v] (truthy v)) := by intro _; rfl) : PT X a (tBm Γ W (sTest ma)) :=
  PT.weak (pt_val h he) fun _ _ _ => e_test fun _ _ _ h => h
theorem gt_cmp {op : CmpOp} {r : R2} {f : D → D → Option T} (ho : OpR X (compareOp op) r) (hd : OpD Γ r f) (ha : PE X a (tSm Γ W ma)) (hb : PE X b (tSm Γ W mb)) (hm : behindInMarks op b = false) : PT X (.Compare a [op] [b] pos) (tBm Γ W (sTest (sOp2 f ma mb))) :=
  PT.weak (pt_cmpR ho ha hb hm) fun _ _ _ => e_test fun _ _ _ => e_op2 hd
theorem gt_isN {j : Nat} {pos' : Pos} (ha : PE X a (tSm Γ W ma)) (h1 : behindInMarks .Is (.Constant .none j pos') = false := by first | exact nobehind _ (by decide) (by decide) | rfl) : PT X (.Compare a [.Is] [.Constant .none j pos'] pos) (tBm Γ W (sTest (sUn fIsN ma))) := PT.weak (pt_cmp (pc_isN ha) h1) fun σ H Q => e_test fun σ H Q h => by
  refine e_un (r := fun x H1 Q => Q (.bl (decide (x = .non))) H1) (fun {B H x d t Q} s r e n => ?_) h
  cases e
  refine n _ H B [] ?_
  have z : decide (x = V.non) = d.isN := by cases r <;> rfl
  rw [z]
  exact NewV.imm s (.bl _)
theorem gt_notN {j : Nat} {pos' : Pos} (ha : PE X a (tSm Γ W ma)) (h1 : behindInMarks .IsNot (.Constant .none j pos') = false := by first | exact nobehind _ (by decide) (by decide) | rfl) : PT X (.Compare a [.IsNot] [.Constant .none j pos'] pos) (tBm Γ W (sTest (sUn fNotN ma))) := PT.weak (pt_cmp (pc_notN ha) h1) fun σ H Q => e_test fun σ H Q h => by
  refine e_un (r := fun x H1 Q => Q (.bl (!decide (x = .non))) H1) (fun {B H x d t Q} s r e n => ?_) h
  cases e
  refine n _ H B [] ?_
  have z : decide (x = V.non) = d.isN := by cases r <;> rfl
  rw [z]
  exact NewV.imm s (.bl _)
/-- first a test, then by its answer -/
theorem e_bthen {m : Sm Bool} {β : Type} {k : Bool → Sm β} {Q : Bool → Hp → Prop} {K : Hp → Hp → List Addr → β → G.St → Prop}
    (hK : ∀ {B H F B1 H1 F1 st1 b st'}, PostS Γ B H F σ st1 H1 B1 F1 → K B H F b st' → K B1 H1 F1 b st')
    (h : ∃ B st F, Stt Γ B H σ st F ∧ RunP ((m st).bind k) (K B H F) (OutX Γ W B H F σ))
    (n : ∀ b B1 H1 st1 F1, Stt Γ B1 H1 σ st1 F1 → RunP (k b st1) (K B1 H1 F1) (OutX Γ W B1 H1 F1 σ) → Q b H1) : tBm Γ W m σ H Q := by
  obtain ⟨B, st, F, S, h⟩ := h
  refine ⟨B, st, F, S, ?_⟩
  rw [run_bind] at h
  refine h.mono (fun b st1 q H1 B1 F1 p => ?_) fun _ _ q => q
  exact n b B1 H1 st1 F1 p.s (q.mono (fun b st' => hK p) fun x st' => OutX.after p)
def WantB (Q : Bool → Hp → Prop) (σ : L2.St) (B H : Hp) (F : List Addr) : Bool → G.St → Prop := fun b st' => ∀ H' B' F', PostS Γ B H F σ st' H' B' F' → Q b H'
theorem WantB.after {Q : Bool → Hp → Prop} {t : Bool} {st' : G.St} (p : PostS Γ B H F σ st1 H1 B1 F1) (h : WantB (Γ := Γ) Q σ B H F t st') : WantB (Γ := Γ) Q σ B1 H1 F1 t st' := fun H' B' F' q => h H' B' F' (p.trans q)
variable {ba bb : Sm Bool} {rest : List Expr}
theorem gw_one {op : BoolOp} (ha : PW X (.BoolOp op [a] pos) (tBm Γ W ba)) : PW X (.BoolOp op [a] pos) (tBm Γ W ba) := ha
theorem PW.weak {t t' : TT} (h : PW X a t) (k : ∀ σ H Q, t' σ H Q → t σ H Q) : PW X a t' := ⟨fun wh pins s σ H Q I q => h.run wh pins s σ H Q I (k σ H Q q)⟩
theorem gw_and (ha : PT X a (tBm Γ W ba)) (hb : PW X (.BoolOp .And (b :: rest) pos) (tBm Γ W bb)) : PW X (.BoolOp .And (a :: b :: rest) pos) (tBm Γ W (bAnd ba bb)) :=
  PW.weak (pw_and ha hb) fun σ H Q h => e_bthen (K := WantB (Γ := Γ) Q σ) (fun p => WantB.after p) h fun c B1 H1 st1 F1 S1 h1 => by
    cases c with
    | true => exact ⟨B1, st1, F1, S1, h1⟩
    | false => exact h1 H1 B1 F1 (PostS.refl S1)
theorem gw_or (ha : PT X a (tBm Γ W ba)) (hb : PW X (.BoolOp .Or (b :: rest) pos) (tBm Γ W bb)) : PW X (.BoolOp .Or (a :: b :: rest) pos) (tBm Γ W (bOr ba bb)) :=
  PW.weak (pw_or ha hb) fun σ H Q h => e_bthen (K := WantB (Γ := Γ) Q σ) (fun p => WantB.after p) h fun c B1 H1 st1 F1 S1 h1 => by
    cases c with
    | false => exact ⟨B1, st1, F1, S1, h1⟩
    | true => exact h1 H1 B1 F1 (PostS.refl S1)
theorem gt_not (ha : PT X a (tBm Γ W ba)) : PT X (.UnaryOp .Not a pos) (tBm Γ W (bNot ba)) :=
  PT.weak (pt_not ha) fun σ H Q h => e_bthen (K := WantB (Γ := Γ) Q σ) (fun p => WantB.after p) h fun c B1 H1 st1 F1 S1 h1 => h1 H1 B1 F1 (PostS.refl S1)
theorem e_testV {m : Sm T} {β : Type} {k : Bool → Sm β} {Q : V → Hp → Prop} {K : Hp → Hp → List Addr → β → G.St → Prop}
    (hK : ∀ {B H F B1 H1 F1 st1 b st'}, PostS Γ B H F σ st1 H1 B1 F1 → K B H F b st' → K B1 H1 F1 b st')
    (h : ∃ B st F, Stt Γ B H σ st F ∧ RunP ((sTest m st).bind k) (K B H F) (OutX Γ W B H F σ))
    (n : ∀ b B1 H1 st1 F1, Stt Γ B1 H1 σ st1 F1 → RunP (k b st1) (K B1 H1 F1) (OutX Γ W B1 H1 F1 σ) → Q (.bl b) H1) : tSm Γ W m σ H Q := by
  have h' := e_bthen (m := sTest m) (k := k) (K := K) (Q := fun b H1 => Q (.bl b) H1) (fun p => hK p) h n
  have h2 := e_test (te := tSm Γ W m) (fun _ _ _ h => h) h'
  obtain ⟨B, st, F, S, h2⟩ := h2
  refine ⟨B, st, F, S, h2.mono (fun t st' q v H' B' G F' p => ?_) fun _ _ q => q⟩
  obtain ⟨k, rfl, q⟩ := q v H' B' G F' p
  exact q
theorem ge_and (ha : PE X a (tSm Γ W ma)) (hb : PE X (.BoolOp .And (b :: rest) pos) (tSm Γ W mb)) : PE X (.BoolOp .And (a :: b :: rest) pos) (tSm Γ W (sAndV ma mb)) :=
  PE.weak (pe_and ha hb) fun σ H Q h => e_testV (K := WantV (Γ := Γ) Q σ) (fun p => WantV.after p) h fun c B1 H1 st1 F1 S1 h1 => ⟨c, rfl, by
    cases c with
    | true => exact ⟨B1, st1, F1, S1, h1⟩
    | false => exact h1 _ H1 B1 [] F1 (PostV.imm (PostS.refl S1) (.bl _))⟩
theorem ge_or (ha : PE X a (tSm Γ W ma)) (hb : PE X (.BoolOp .Or (b :: rest) pos) (tSm Γ W mb)) : PE X (.BoolOp .Or (a :: b :: rest) pos) (tSm Γ W (sOrV ma mb)) :=
  PE.weak (pe_or ha hb) fun σ H Q h => e_testV (K := WantV (Γ := Γ) Q σ) (fun p => WantV.after p) h fun c B1 H1 st1 F1 S1 h1 => ⟨c, rfl, by
    cases c with
    | false => exact ⟨B1, st1, F1, S1, h1⟩
    | true => exact h1 _ H1 B1 [] F1 (PostV.imm (PostS.refl S1) (.bl _))⟩
theorem ge_not (ha : PE X a (tSm Γ W ma)) : PE X (.UnaryOp .Not a pos) (tSm Γ W (sNotV ma)) :=
  PE.weak (pe_not ha) fun σ H Q h => e_testV (K := WantV (Γ := Γ) Q σ) (fun p => WantV.after p) h fun c B1 H1 st1 F1 S1 h1 => ⟨c, rfl, h1 _ H1 B1 [] F1 (PostV.imm (PostS.refl S1) (.bl _))⟩

/-! ### arguments -/
variable {es : List Expr} {ra : Sa}
theorem ga_nil : PA X [] (tAm Γ W aNil) := PA.weak pa_nil fun σ H Q h => by
  obtain ⟨B, st, F, S, h⟩ := h
  exact h [] H B [] F ⟨S, .nil, by simpa using S.nd, fun _ m => (nomatch m), .refl, .nil⟩
theorem PostV.cons {ts : List T} {ls : List (Option Nat)} {vs : List V} (p : PostV Γ B H F σ t st1 v H1 B1 G1 F1) (q : PostA Γ B1 H1 F1 σ ts ls st2 vs H2 B2 G2 F2) {l : Option Nat} (hl : Lent σ (v :: vs) (l :: ls)) :
    PostA Γ B H F σ (t :: ts) (l :: ls) st2 (v :: vs) H2 B2 (G1 ++ G2) F2 := by
  have nd := nd_app.mp p.nd
  have th := p.o.there
  have ap := q.u.apart (fun a m => nd.2.2 a m) th
  refine ⟨q.s, .cons (p.o.at q.u.b (q.u.at fun a m => nd.2.2 a m)) q.o, ?_, fun a m => ?_, ?_, hl⟩
  · rw [List.append_assoc]
    exact nd_app.mpr ⟨nd.1, q.nd, ap⟩
  · rcases List.mem_append.mp m with m | m
    · exact q.u.frB (fun a m => nd.2.2 a m) p.fr th a m
    · exact q.fr a m
  · refine p.u.comp q.u (fun a m => List.mem_append_right _ m) fun a m => ?_
    rw [List.append_assoc] at m
    rcases List.mem_append.mp m with m | m
    · exact .inr (List.mem_append_left _ m)
    · exact .inl m
theorem ga_val (ha : PE X a (tSm Γ W ma)) (hr : PA X es (tAm Γ W ra)) (hs : starEach (a :: es) X.env = (false, eval a X.env) :: starEach es X.env := by rfl) : PA X (a :: es) (tAm Γ W (aVal ma ra)) :=
  PA.weak (pa_cons ha hr hs) fun σ H Q h => by
    obtain ⟨B, st, F, S, h⟩ := h
    refine ⟨B, st, F, S, ?_⟩
    unfold aVal Sm.bind at h
    rw [run_bind] at h
    refine h.mono (fun t st1 q v H1 B1 G1 F1 p => ?_) fun _ _ q => q
    rw [run_bind] at q
    refine ⟨B1, st1, F1, p.s, q.mono (fun ps st2 q vs H2 B2 G2 F2 p2 => ?_) fun x st' => OutX.after p.drop⟩
    exact q (v :: vs) H2 B2 (G1 ++ G2) F2 (p.cons p2 (.val p2.l))
theorem ga_lend (i : Nat) {x : Str} (hr : PA X es (tAm Γ W ra)) (hN : X.N[i]? = some x := by rfl) (hv : Vis X.env.scope x := by first | exact Or.inl rfl | exact Or.inr (Or.inl rfl) | exact Or.inr (Or.inr rfl)) (hd : (x == ("__debug__" : Str)) = false := by decide)
    (hcd : (x == ("__classdict__" : Str)) = false := by decide) (hs : starEach (.Name x pos :: es) X.env = (false, eval (.Name x pos) X.env) :: starEach es X.env := by rfl) : PA X (.Name x pos :: es) (tAm Γ W (aLend i ra)) :=
  PA.weak (pa_cons (pe_var hN hv hd hcd) hr hs) fun σ H Q h => by
    obtain ⟨B, st, F, S, h⟩ := h
    unfold aLend at h
    cases e : st[i]? with
    | none => rw [e] at h; exact h.elim
    | some o =>
      cases o with
      | none => rw [e] at h; exact h.elim
      | some t =>
        rw [e] at h
        obtain ⟨v, G1, F1, hv, p⟩ := S.take e
        refine ⟨v, hv, B, st.set i none, F1, p.s, ?_⟩
        have h' : RunP ((ra (st.set i none)).bind fun p st' => .ok (t :: p.1, some i :: p.2) st') _ _ := h
        rw [run_bind] at h'
        refine h'.mono (fun ps st2 q vs H2 B2 G2 F2 p2 => ?_) fun x st' => OutX.after p.drop
        exact q (v :: vs) H2 B2 (G1 ++ G2) F2 (p.cons p2 (.lend hv p2.l))
/-- the arguments as data -/
theorem OwL.toL {vs : List V} {ts : List T} {G : List Addr} {B' : Hp} (e : Sub B B') (o : OwL Γ B H vs ts G) (k : At H B' G) : RpL Γ B' vs (T.toDs ts) := o.frz e k
theorem PostA.frz {ts : List T} {ls : List (Option Nat)} {vs : List V} (p : PostA Γ B H F σ ts ls st1 vs H1 B1 G1 F1) : ∃ B2, RpL Γ B2 vs (T.toDs ts) ∧ PostS Γ B H F σ st1 H1 B2 F1 := by
  have nd := nd_app.mp p.nd
  refine ⟨frzB B1 H1 G1, p.o.frz (frzB_sub p.s.ex) frzB_at, ⟨frzB_ex p.s.ex, p.s.sl.at (frzB_sub p.s.ex) fun _ _ _ h => h, p.s.nd, fun a m => frzB_none (p.s.fr a m) fun z => nd.2.2 a z m⟩, ?_⟩
  refine ⟨p.u.b.trans (frzB_sub p.s.ex), p.u.keep, p.u.dom, fun a m => p.u.new a (List.mem_append_right _ m), fun a o h => ?_⟩
  unfold frzB at h
  split at h
  · rename_i m
    rcases p.u.new a (List.mem_append_left _ m) with q | q
    · exact .inr (.inl q)
    · exact .inr (.inr q)
  · exact p.u.frz a o h
theorem RpL.len {vs : List V} {ds : List D} : RpL Γ B vs ds → vs.length = ds.length
  | .nil => rfl
  | .cons _ r => by simp [RpL.len r]
theorem toDs_len (ts : List T) : (T.toDs ts).length = ts.length := by rw [toDs_map]; simp
theorem ge_tup {k : Nat} (h : PA X es (tAm Γ W ra)) : PE X (.Tuple es k pos) (tSm Γ W (sTup ra)) := PE.weak (pe_tup h) fun σ H Q h => by
  obtain ⟨B, st, F, S, h⟩ := h
  refine ⟨B, st, F, S, ?_⟩
  unfold sTup Sm.bind at h
  rw [run_bind] at h
  refine h.mono (fun ps st1 q vs H1 B1 G1 F1 p => ?_) fun _ _ q => q
  obtain ⟨B2, r, p'⟩ := p.frz
  by_cases hl : ps.1.length ≤ 1000
  · rw [if_pos hl] at q
    have hn : vs.length = ps.1.length := by rw [r.len, toDs_len]
    refine ⟨by rw [hn]; exact Nat.le_trans hl (by decide), fun x hx => ?_⟩
    exact q _ _ _ _ _ (NewV.post p' (NewV.obj p'.s.ex hx (.tup (SqT.of upd_same) (r.mono Γ (Sub.new (p'.s.ex.none hx))))))
  · rw [if_neg hl] at q
    exact q.elim
theorem OwL.len {vs : List V} {ds : List T} {G : List Addr} : OwL Γ B H vs ds G → vs.length = ds.length
  | .nil => rfl
  | .cons _ r => by simp [OwL.len r]
theorem ge_lst (h : PA X es (tAm Γ W ra)) : PE X (.List es pos) (tSm Γ W (sLst ra)) := PE.weak (pe_lst h) fun σ H Q h => by
  obtain ⟨B, st, F, S, h⟩ := h
  refine ⟨B, st, F, S, ?_⟩
  unfold sLst Sm.bind at h
  rw [run_bind] at h
  refine h.mono (fun ps st1 q vs H1 B1 G1 F1 p => ?_) fun _ _ q => q
  by_cases hl : ps.1.length ≤ 1000
  · rw [if_pos hl] at q
    have hn : vs.length = ps.1.length := p.o.len
    refine ⟨by rw [hn]; exact Nat.le_trans hl (by decide), fun x hx => ?_⟩
    have k : Sub H1 (upd H1 x (.lst vs)) := Sub.new hx
    have th := p.o.there
    have xG : x ∉ G1 := fun z => th x z hx
    have xF : x ∉ F1 := fun z => p.s.there x z hx
    refine q (.ref x) _ B1 (x :: G1) F1 ⟨⟨p.s.ex.trans k, p.s.sl.at (Sub.refl _) fun a _ o h => k a o h, p.s.nd, p.s.fr⟩, .lst upd_same (p.o.at (Sub.refl _) fun a _ o h => k a o h), ?_, fun a m => ?_, ?_⟩
    · show (x :: (G1 ++ F1)).Nodup
      exact List.nodup_cons.mpr ⟨fun z => (List.mem_append.mp z).elim xG xF, p.nd⟩
    · rcases List.mem_cons.mp m with rfl | m
      · exact p.s.ex.none hx
      · exact p.fr a m
    · refine p.u.comp (upd_newH (B := B1) hx) (fun _ z => nomatch z) fun a m => ?_
      rcases List.mem_cons.mp m with rfl | m
      · exact .inl (List.mem_singleton.mpr rfl)
      · exact .inr m
  · rw [if_neg hl] at q
    exact q.elim
/-- a built-in's call on data -/
theorem e_blt {r : List V → Hp → VK → Prop} {f : List D → Option T} (hd : CallD Γ r f) {Q : VK} (h : tSm Γ W (sBlt f ra) σ H Q) : tCB r (tAm Γ W ra) σ H Q := by
  obtain ⟨B, st, F, S, h⟩ := h
  refine ⟨B, st, F, S, ?_⟩
  unfold sBlt Sm.bind at h
  rw [run_bind] at h
  refine h.mono (fun ps st1 q vs H1 B1 G1 F1 p => ?_) fun _ _ q => q
  obtain ⟨B2, rr, p'⟩ := p.frz
  obtain ⟨t, ht, q⟩ := run_ofO q
  exact hd p'.s.ex rr ht fun v H' B' G n => q v H' B' G F1 (n.post p')
theorem ge_callB {id : String} {x : Str} {p : Pos} {r : List V → Hp → VK → Prop} {f : List D → Option T} (hc : CallR X (.builtin id) r) (hd : CallD Γ r f) (hg : Gl X x) (hm : X.mg x = none) (hv : bootBuiltins x = some (.builtin id)) (ha : PA X (a :: es) (tAm Γ W ra)) (hn : x ≠ "__name__" := by decide) (hdb : (x == ("__debug__" : Str)) = false := by decide)
    (he : starEach (a :: es) X.env = (false, eval a X.env) :: starEach es X.env := by rfl) (hpl : (backTo pos (starEach es X.env)).any (·.1) = false := by rfl) : PE X (.Call (.Name x p) (a :: es) [] pos) (tSm Γ W (sBlt f ra)) :=
  PE.weak (pe_callB hc hg hm hv ha hn hdb he hpl) fun _ _ _ => e_blt hd
theorem ge_callTy {id : String} {x : Str} {p : Pos} {r : List V → Hp → VK → Prop} {f : List D → Option T} (hc : CallR X (.type id) r) (hd : CallD Γ r f) (hg : Gl X x) (hm : X.mg x = none) (hv : bootBuiltins x = some (.type id)) (ha : PA X (a :: es) (tAm Γ W ra)) (hn : x ≠ "__name__" := by decide) (hdb : (x == ("__debug__" : Str)) = false := by decide)
    (he : starEach (a :: es) X.env = (false, eval a X.env) :: starEach es X.env := by rfl) (hpl : (backTo pos (starEach es X.env)).any (·.1) = false := by rfl) : PE X (.Call (.Name x p) (a :: es) [] pos) (tSm Γ W (sBlt f ra)) :=
  PE.weak (pe_callTy hc hg hm hv ha hn hdb he hpl) fun _ _ _ => e_blt hd

/-! ### calls of defs -/
variable (Γ) in
/-- a def's promise: it does what f does -/
def spOf (f : Fn) : Sp := fun vs H Q E => ∃ B ts F, Stt Γ B H (vs.map some) (ts.map some) F ∧ match f ts with
  | .no => False
  | .ret t ps => ∀ v H' B' G F', PostV Γ B H F (vs.map some) t ps v H' B' G F' → Q v H'
  | .ex x ps => ∀ cls d H' B' F', PostX Γ B H F (vs.map some) x ps cls d H' B' F' → E cls d H'
theorem OwL.sl {vs : List V} {ts : List T} {G : List Addr} : OwL Γ B H vs ts G → Sl Γ B H (vs.map some) (ts.map some) G
  | .nil => .nil
  | .cons o r => .cons o (OwL.sl r)
theorem wb_ok {vs : List V} {ls : List (Option Nat)} (l : Lent σ vs ls) : ∀ {ps : List (Option T)} {st : G.St} {F2 F : List Addr}, Sl Γ B H (vs.map some) ps F2 → Sl Γ B H σ st F → (F2 ++ F).Nodup →
    ∃ F', Sl Γ B H σ (wb ls ps st) F' ∧ F'.Nodup ∧ ∀ a ∈ F', a ∈ F2 ∨ a ∈ F := by
  induction l with
  | nil =>
    intro ps st F2 F h2 h nd
    cases h2
    exact ⟨F, h, nd, fun a m => .inr m⟩
  | val l ih =>
    intro ps st F2 F h2 h nd
    cases h2 with
    | skip h2 => exact ih h2 h nd
    | cons o h2 =>
      rw [List.append_assoc] at nd
      obtain ⟨F', s, n, q⟩ := ih h2 h (nd_app.mp nd).2.1
      exact ⟨F', s, n, fun a m => (q a m).imp (fun z => List.mem_append_right _ z) id⟩
  | @lend i v vs ls hi l ih =>
    intro ps st F2 F h2 h nd
    have hlt : i < st.length := by rw [← h.len]; exact lt_of_some hi
    obtain ⟨A, G, C, rfl, _, q⟩ := h.open hlt
    have q := q B H (Sub.refl B) at_self
    have sub : ∀ a ∈ A ++ C, a ∈ A ++ (G ++ C) := fun a m => by
      rcases List.mem_append.mp m with m | m
      · exact List.mem_append_left _ m
      · exact List.mem_append_right _ (List.mem_append_right _ m)
    have nd0 := nd_app.mp nd
    have ndA : (A ++ C).Nodup := (nd_app.mp (nd_mid.mp nd0.2.1)).2.1
    cases h2 with
    | skip h2 =>
      have s1 := q.2 (some v)
      rw [set_self hi] at s1
      obtain ⟨F', s, n, z⟩ := ih h2 s1 (nd_app.mpr ⟨nd0.1, ndA, fun a m z => nd0.2.2 a m (sub a z)⟩)
      exact ⟨F', s, n, fun a m => (z a m).imp id (sub a)⟩
    | @cons _ t _ st0 F0 G0 o h2 =>
      have s1 := q.1 v t _ o
      rw [set_self hi] at s1
      rw [List.append_assoc] at nd
      have nd1 := nd_app.mp nd
      have nd2 := nd_app.mp nd1.2.1
      have nd3 : (F0 ++ (A ++ (G0 ++ C))).Nodup := by
        refine nd_app.mpr ⟨nd2.1, nd_mid.mpr (nd_app.mpr ⟨nd1.1, ndA, fun a m z => nd1.2.2 a m (List.mem_append_right _ (sub a z))⟩), fun a m z => ?_⟩
        rcases List.mem_append.mp z with z | z
        · exact nd2.2.2 a m (List.mem_append_left _ z)
        · rcases List.mem_append.mp z with z | z
          · exact nd1.2.2 a z (List.mem_append_left _ m)
          · exact nd2.2.2 a m (List.mem_append_right _ (List.mem_append_right _ z))
      obtain ⟨F', s, n, z⟩ := ih h2 s1 nd3
      refine ⟨F', s, n, fun a m => ?_⟩
      rcases z a m with z | z
      · exact .inl (List.mem_append_right _ z)
      · rcases List.mem_append.mp z with z | z
        · exact .inr (List.mem_append_left _ z)
        · rcases List.mem_append.mp z with z | z
          · exact .inl (List.mem_append_left _ z)
          · exact .inr (List.mem_append_right _ (List.mem_append_right _ z))
/-- the lent things come back into the state -/
theorem PostA.back {ts : List T} {ls : List (Option Nat)} {vs : List V} {ps : List (Option T)} (p : PostA Γ B H F σ ts ls st1 vs H1 B1 G1 F1) (q : PostS Γ B1 H1 G1 (vs.map some) ps H2 B2 F2) :
    ∃ F3, PostS Γ B H F σ (wb ls ps st1) H2 B2 F3 ∧ ∀ a ∈ F3, a ∈ F2 ∨ a ∈ F1 := by
  have nd := nd_app.mp p.nd
  have d : ∀ a ∈ F1, a ∉ G1 := fun a m z => nd.2.2 a z m
  have th := p.s.there
  have ap := q.u.apart d th
  have frB := q.u.frB d p.s.fr th
  obtain ⟨F3, s, n, z⟩ := wb_ok p.l q.s.sl (p.s.sl.at q.u.b (q.u.at d)) (nd_app.mpr ⟨q.s.nd, p.s.nd, fun a m z => ap a z m⟩)
  refine ⟨F3, ⟨⟨q.s.ex, s, n, fun a m => (z a m).elim (q.s.fr a) (frB a)⟩, ?_⟩, z⟩
  exact p.u.comp q.u (fun a m => List.mem_append_left _ m) fun a m => (z a m).imp id (fun m => List.mem_append_right _ m)
theorem e_call {f : Fn} {Q : VK} (h : tSm Γ W (sCall f ra) σ H Q) : tCallS (spOf Γ f) (WE W) (tAm Γ W ra) σ H Q := by
  obtain ⟨B, st, F, S, h⟩ := h
  refine ⟨B, st, F, S, ?_⟩
  unfold sCall Sm.bind at h
  rw [run_bind] at h
  refine h.mono (fun ps st1 q vs H1 B1 G1 F1 p => ?_) fun _ _ q => q
  refine ⟨B1, ps.1, G1, ⟨p.s.ex, p.o.sl, (nd_app.mp p.nd).1, p.fr⟩, ?_⟩
  cases e : f ps.1 with
  | no => rw [e] at q; exact q.elim
  | ret t qs =>
    rw [e] at q
    intro v H2 B2 G2 F2 r
    have nd := nd_app.mp p.nd
    have d : ∀ a ∈ F1, a ∉ G1 := fun a m z => nd.2.2 a z m
    have ap := r.u.apart d p.s.there
    obtain ⟨F3, s, z⟩ := p.back r.drop
    have ndr := nd_app.mp r.nd
    refine q v H2 B2 G2 F3 ⟨s.s, r.o, nd_app.mpr ⟨ndr.1, s.s.nd, fun a m y => ?_⟩, r.fr, ?_⟩
    · rcases z a y with y | y
      · exact ndr.2.2 a m y
      · exact ap a y (List.mem_append_left _ m)
    · refine p.u.comp r.u (fun a m => List.mem_append_left _ m) fun a m => ?_
      rcases List.mem_append.mp m with m | m
      · exact .inl (List.mem_append_left _ m)
      · exact (z a m).imp (fun m => List.mem_append_right _ m) (fun m => List.mem_append_right _ m)
  | ex x qs =>
    rw [e] at q
    intro cls d H2 B2 F2 r
    obtain ⟨F3, s, z⟩ := p.back r.s
    exact q cls d H2 B2 F3 ⟨s, r.x⟩
theorem ge_call {f : Fn} {k : Nat} {g : Addr} {fd : FuncData} {ps : List Str} {x : Str} {p : Pos} (Fk : FnOk X.prog X.w X.K X.mg X.base (L2.CX X.prog X.w) k g fd ps (spOf Γ f)) (hr : Room k X.A) (hm : X.mg x = some (.ref g)) (hk : PySem.W.keepIn X.K (.ref g) = true) (hb : Binds X.K fd ps []) (tk : Takes X W)
    (ha : PA X (a :: es) (tAm Γ W ra)) (hg : Gl X x := by rfl) (hdb : (x == ("__debug__" : Str)) = false := by decide) (he : starEach (a :: es) X.env = (false, eval a X.env) :: starEach es X.env := by rfl) (hpl : (backTo pos (starEach es X.env)).any (·.1) = false := by rfl) :
    PE X (.Call (.Name x p) (a :: es) [] pos) (tSm Γ W (sCall f ra)) := PE.weak (pe_callS Fk hr hg hm hk hb (fun σ => passAt tk σ) ha hdb he hpl) fun _ _ _ => e_call
end
end
end G
set_option Elab.async false
set_option linter.all false
set_option maxRecDepth 100000
/-! Statements, loops, comprehensions. -/
namespace G
open PySem L2
section
variable {Γ : Wh}
variable {B H B' H' B1 H1 B2 H2 : Hp} {σ σ1 σ2 : L2.St} {st st1 st2 : G.St} {F F' F1 F2 F3 F4 G1 G2 : List Addr} {t t1 t2 : T} {v v1 v2 : V} {W : L2.WX} {fx : List Nat}

variable (Γ) in
/-- behind a statement: the names' values may be others, but those of fx -/
structure PostT (B H : Hp) (F : List Addr) (fx : List Nat) (σ σ' : L2.St) (st' : G.St) (H' B' : Hp) (F' : List Addr) : Prop where
  s : Stt Γ B' H' σ' st' F'
  u : Upd B H F B' H' F'
  k : ∀ i ∈ fx, σ'[i]? = σ[i]?
  l : σ'.length = σ.length
variable (Γ) in
structure PostR (B H : Hp) (F : List Addr) (fx : List Nat) (σ σ' : L2.St) (t : T) (st' : G.St) (v : V) (H' B' : Hp) (G F' : List Addr) : Prop where
  v : PostV Γ B H F σ' t st' v H' B' G F'
  k : ∀ i ∈ fx, σ'[i]? = σ[i]?
  l : σ'.length = σ.length
variable (Γ) in
def EndS (D : Ends) (fx : List Nat) (σ : L2.St) (B H : Hp) (F : List Addr) : Fl → G.St → Prop := fun f st' => match f with
  | .nx => ∀ σ' H' B' F', PostT Γ B H F fx σ σ' st' H' B' F' → D.nx σ' H'
  | .bk => ∀ σ' H' B' F', PostT Γ B H F fx σ σ' st' H' B' F' → D.bk σ' H'
  | .ct => ∀ σ' H' B' F', PostT Γ B H F fx σ σ' st' H' B' F' → D.ct σ' H'
  | .rt t => ∀ σ' v H' B' G F', PostR Γ B H F fx σ σ' t st' v H' B' G F' → D.rt v H'
variable (Γ) in
def OutS (W : L2.WX) (fx : List Nat) (σ : L2.St) (B H : Hp) (F : List Addr) : G.X → G.St → Prop := fun x st' => ∀ σ' cls d H' B' F', PostT Γ B H F fx σ σ' st' H' B' F' → XRep Γ B' cls d x → W cls d σ' H'
variable (Γ) in
def tSs (W : L2.WX) (fx : List Nat) (m : Ss) : TS := fun D σ H => ∃ B st F, Stt Γ B H σ st F ∧ RunP (m st) (EndS Γ D fx σ B H F) (OutS Γ W fx σ B H F)

theorem PostT.refl (S : Stt Γ B H σ st F) : PostT Γ B H F fx σ σ st H B F := ⟨S, .refl, fun _ _ => rfl, rfl⟩
theorem PostT.ofS (p : PostS Γ B H F σ st1 H1 B1 F1) : PostT Γ B H F fx σ σ st1 H1 B1 F1 := ⟨p.s, p.u, fun _ _ => rfl, rfl⟩
theorem PostT.trans (p : PostT Γ B H F fx σ σ1 st1 H1 B1 F1) (q : PostT Γ B1 H1 F1 fx σ1 σ2 st2 H2 B2 F2) : PostT Γ B H F fx σ σ2 st2 H2 B2 F2 := ⟨q.s, p.u.trans q.u, fun i m => (q.k i m).trans (p.k i m), q.l.trans p.l⟩
theorem PostR.after (p : PostT Γ B H F fx σ σ1 st1 H1 B1 F1) (q : PostR Γ B1 H1 F1 fx σ1 σ2 t st2 v H2 B2 G2 F2) : PostR Γ B H F fx σ σ2 t st2 v H2 B2 G2 F2 := ⟨⟨q.v.s, q.v.o, q.v.nd, q.v.fr, p.u.trans q.v.u⟩, fun i m => (q.k i m).trans (p.k i m), q.l.trans p.l⟩
theorem EndS.after {D : Ends} {f : Fl} {st' : G.St} (p : PostT Γ B H F fx σ σ1 st1 H1 B1 F1) (h : EndS Γ D fx σ B H F f st') : EndS Γ D fx σ1 B1 H1 F1 f st' := by
  cases f with
  | nx => exact fun σ' H' B' F' q => h σ' H' B' F' (p.trans q)
  | bk => exact fun σ' H' B' F' q => h σ' H' B' F' (p.trans q)
  | ct => exact fun σ' H' B' F' q => h σ' H' B' F' (p.trans q)
  | rt t => exact fun σ' v H' B' G F' q => h σ' v H' B' G F' (PostR.after p q)
theorem OutS.after {x : G.X} {st' : G.St} (p : PostT Γ B H F fx σ σ1 st1 H1 B1 F1) (h : OutS Γ W fx σ B H F x st') : OutS Γ W fx σ1 B1 H1 F1 x st' := fun σ' cls d H' B' F' q => h σ' cls d H' B' F' (p.trans q)
theorem OutS.x {x : G.X} {st' : G.St} (h : OutS Γ W fx σ B H F x st') : OutX Γ W B H F σ x st' := fun cls d H' B' F' q => h σ cls d H' B' F' (PostT.ofS q.s) q.x
/-- an expression first -/
theorem e_sthen {m : Sm T} {k : T → Sm Fl} {D : Ends} {Q : VK}
    (h : ∃ B st F, Stt Γ B H σ st F ∧ RunP ((m st).bind k) (EndS Γ D fx σ B H F) (OutS Γ W fx σ B H F))
    (n : ∀ v t B H F B1 H1 st1 G1 F1, PostV Γ B H F σ t st1 v H1 B1 G1 F1 → RunP (k t st1) (EndS Γ D fx σ B H F) (OutS Γ W fx σ B H F) → Q v H1) : tSm Γ W m σ H Q := by
  obtain ⟨B, st, F, S, h⟩ := h
  refine ⟨B, st, F, S, ?_⟩
  rw [run_bind] at h
  exact h.mono (fun t st1 q v H1 B1 G1 F1 p => n v t B H F B1 H1 st1 G1 F1 p q) fun _ _ q => OutS.x q
theorem set_out {α : Type} {l : List α} {i : Nat} {x : α} (h : ¬ i < l.length) : l.set i x = l := List.set_eq_of_length_le (Nat.le_of_not_lt h)
/-- stored under a name -/
theorem PostV.store {i : Nat} (hi : i ∉ fx) (p : PostV Γ B H F σ t st1 v H1 B1 G1 F1) : ∃ F2, PostT Γ B H F fx σ (σ.set i (some v)) (st1.set i (some t)) H1 B1 F2 := by
  have k : ∀ j ∈ fx, (σ.set i (some v))[j]? = σ[j]? := fun j m => List.getElem?_set_ne fun e => hi (by rw [e]; exact m)
  by_cases hl : i < st1.length
  · obtain ⟨F2, q⟩ := p.put hl
    exact ⟨F2, q.s, q.u, k, List.length_set ..⟩
  · have hl2 : ¬ i < σ.length := by rw [p.s.sl.len]; exact hl
    refine ⟨F1, ?_, p.drop.u, k, List.length_set ..⟩
    rw [set_out hl, set_out hl2]
    exact p.s
theorem PostV.storeF {i : Nat} (hi : i ∉ fx) (p : PostV Γ B H F σ t st1 v H1 B1 G1 F1) : ∃ B2 F2, PostT Γ B H F fx σ (σ.set i (some v)) (st1.set i (some (.imm t.toD))) H1 B2 F2 := by
  obtain ⟨B2, r, ps⟩ := p.frz
  obtain ⟨F2, q⟩ := PostV.store (fx := fx) hi (PostV.imm ps r)
  exact ⟨B2, F2, q⟩

/-! ### small statements -/
section
variable {X : Cx} {e a b c : Expr} {m ma : Sm T} {pos : Pos} {i : Nat} {x : Str} {s1 s2 : Ss}
theorem e_set {D : Ends} (hi : i ∉ fx) (h : tSs Γ W fx (sSet i m) D σ H) : tAsg (tSm Γ W m) (L2.gName i) D σ H :=
  e_sthen (Q := fun x H1 => D.nx (σ.set i (some x)) H1) h fun v t B H F B1 H1 st1 G1 F1 p q => by
    obtain ⟨F2, r⟩ := p.store (fx := fx) hi
    exact q _ _ _ _ r
theorem e_setF {D : Ends} (hi : i ∉ fx) (h : tSs Γ W fx (sSetF i m) D σ H) : tAsg (tSm Γ W m) (L2.gName i) D σ H :=
  e_sthen (Q := fun x H1 => D.nx (σ.set i (some x)) H1) h fun v t B H F B1 H1 st1 G1 F1 p q => by
    obtain ⟨B2, F2, r⟩ := p.storeF (fx := fx) hi
    exact q _ _ _ _ r
theorem gs_set {pos' : Pos} (hN : X.N.Nodup) (he : PE X e (tSm Γ W m)) (hi : X.N[i]? = some x := by rfl) (hf : i ∉ fx := by decide) (hx : Loc X.env.scope x := by first | exact Or.inl rfl | exact Or.inr rfl) (hs : swapsWith e (some (.Name x pos')) pos.line X.env = pure false := by rfl)
    (hy : X.fn x = true ∨ X.env.scope.names.lookup x = some .local := by first | exact .inl rfl | exact .inr rfl | assumption) : PS X (.Assign [.Name x pos'] e pos) (tSs Γ W fx (sSet i m)) := PS.weak (ps_set hN hi hx he hs hy) fun _ _ _ => e_set hf
theorem gs_setF {pos' : Pos} (hN : X.N.Nodup) (he : PE X e (tSm Γ W m)) (hi : X.N[i]? = some x := by rfl) (hf : i ∉ fx := by decide) (hx : Loc X.env.scope x := by first | exact Or.inl rfl | exact Or.inr rfl) (hs : swapsWith e (some (.Name x pos')) pos.line X.env = pure false := by rfl)
    (hy : X.fn x = true ∨ X.env.scope.names.lookup x = some .local := by first | exact .inl rfl | exact .inr rfl | assumption) : PS X (.Assign [.Name x pos'] e pos) (tSs Γ W fx (sSetF i m)) := PS.weak (ps_set hN hi hx he hs hy) fun _ _ _ => e_setF hf
theorem gs_expr (he : PE X e (tSm Γ W m)) (hs : swapsWith e none pos.line X.env = pure false := by rfl) : PS X (.Expr e pos) (tSs Γ W fx (sExpr m)) := PS.weak (ps_expr he hs) fun D σ H h =>
  e_sthen (Q := fun _ H1 => D.nx σ H1) h fun v t B H F B1 H1 st1 G1 F1 p q => q _ _ _ _ (PostT.ofS p.drop)
theorem gs_ret (he : PE X e (tSm Γ W m)) : PS X (.Return (some e) pos) (tSs Γ W fx (sRet m)) := PS.weak (ps_ret he) fun D σ H h =>
  e_sthen (Q := D.rt) h fun v t B H F B1 H1 st1 G1 F1 p q => q _ _ _ _ _ _ ⟨p, fun _ _ => rfl, rfl⟩
theorem gs_retN : PS X (.Return none pos) (tSs Γ W fx sRetN) := PS.weak ps_retN fun D σ H h => by
  obtain ⟨B, st, F, S, h⟩ := h
  exact h _ _ _ _ _ _ ⟨PostV.imm (PostS.refl S) .non, fun _ _ => rfl, rfl⟩
theorem gs_pass : PS X (.Pass pos) (tSs Γ W fx sPass) := PS.weak ps_pass fun D σ H h => by
  obtain ⟨B, st, F, S, h⟩ := h
  exact h _ _ _ _ (PostT.refl S)
theorem gs_break : PS X (.Break pos) (tSs Γ W fx sBreak) := PS.weak ps_break fun D σ H h => by
  obtain ⟨B, st, F, S, h⟩ := h
  exact h _ _ _ _ (PostT.refl S)
theorem gs_never {s : Stmt} : PS X s (tSs Γ W fx sNever) := PS.weak ps_never fun D σ H h => by
  obtain ⟨B, st, F, S, h⟩ := h
  exact h
theorem gss_nil : PSs X [] (tSs Γ W fx sPass) := PSs.weak pss_nil fun D σ H h => by
  obtain ⟨B, st, F, S, h⟩ := h
  exact h _ _ _ _ (PostT.refl S)
variable {s : Stmt} {rest : List Stmt}
theorem gss_one (h : PS X s (tSs Γ W fx s1)) : PSs X [s] (tSs Γ W fx s1) := pss_one h
theorem gss_cons (h1 : PS X s (tSs Γ W fx s1)) (h2 : PSs X rest (tSs Γ W fx s2)) : PSs X (s :: rest) (tSs Γ W fx (sSeq s1 s2)) := PSs.weak (pss_cons h1 h2) fun D σ H h => by
  obtain ⟨B, st, F, S, h⟩ := h
  unfold sSeq Sm.bind at h
  rw [run_bind] at h
  refine ⟨B, st, F, S, h.mono (fun f st1 q => ?_) fun _ _ q => q⟩
  cases f with
  | nx => exact fun σ1 H1 B1 F1 p => ⟨B1, st1, F1, p.s, RunP.mono (show RunP (s2 st1) _ _ from q) (fun f st' => EndS.after p) fun x st' => OutS.after p⟩
  | bk => exact q
  | ct => exact q
  | rt t => exact q
variable {bs cs : List Stmt} {mc : Sm Bool}
theorem gs_if (hc : PT X c (tBm Γ W mc)) (ha : PSs X bs (tSs Γ W fx s1)) (hb : PSs X cs (tSs Γ W fx s2)) : PS X (.If c bs cs pos) (tSs Γ W fx (sIf mc s1 s2)) := PS.weak (ps_if hc ha hb) fun D σ H h => by
  obtain ⟨B, st, F, S, h⟩ := h
  unfold sIf Sm.bind at h
  rw [run_bind] at h
  refine ⟨B, st, F, S, h.mono (fun b st1 q H1 B1 F1 p => ?_) fun _ _ q => OutS.x q⟩
  cases b with
  | true => exact ⟨B1, st1, F1, p.s, RunP.mono q (fun f st' => EndS.after (PostT.ofS p)) fun x st' => OutS.after (PostT.ofS p)⟩
  | false => exact ⟨B1, st1, F1, p.s, RunP.mono q (fun f st' => EndS.after (PostT.ofS p)) fun x st' => OutS.after (PostT.ofS p)⟩
end

/-! ### targets -/
variable (Γ) in
/-- the target's names are ps -/
def PatOk (ps : List Nat) (tg : TG) (g : Pat) : Prop := ∀ {B H : Hp} {σ : L2.St} {st st' : G.St} {F : List Addr} {v : V} {d : D} {Q : L2.St → Hp → Prop}, Stt Γ B H σ st F → Rp Γ B v d → g d st = some st' →
  (∀ σ' F', Stt Γ B H σ' st' F' → (∀ a ∈ F', a ∈ F) → σ'.length = σ.length → (∀ i, i ∉ ps → σ'[i]? = σ[i]?) → Q σ' H) → tg v σ H Q
variable (Γ) in
def PatsOk (ps : List Nat) (tg : TGs) (g : List Pat) : Prop := ∀ {B H : Hp} {σ : L2.St} {st st' : G.St} {F : List Addr} {v : List V} {d : List D} {Q : L2.St → Hp → Prop}, Stt Γ B H σ st F → RpL Γ B v d → gAll g d st = some st' →
  (∀ σ' F', Stt Γ B H σ' st' F' → (∀ a ∈ F', a ∈ F) → σ'.length = σ.length → (∀ i, i ∉ ps → σ'[i]? = σ[i]?) → Q σ' H) → tg v σ H Q
variable (Γ) in
structure GP (X : Cx) (e : Expr) (ps : List Nat) (tg : TG) (g : Pat) : Prop where
  p : PG X e tg
  o : PatOk Γ ps tg g
variable (Γ) in
structure GPs (X : Cx) (e : List Expr) (ps : List Nat) (tg : TGs) (g : List Pat) : Prop where
  p : PGs X e tg
  o : PatsOk Γ ps tg g
theorem gp_name {X : Cx} {pos : Pos} (i : Nat) {x : Str} (hN : X.N.Nodup) (hi : X.N[i]? = some x := by rfl) (hx : Loc X.env.scope x := by first | exact Or.inl rfl | exact Or.inr rfl) (hf : X.fn x = true ∨ X.env.scope.names.lookup x = some .local := by first | exact .inl rfl | exact .inr rfl | assumption) :
    GP Γ X (.Name x pos) [i] (L2.gName i) (gName i) := ⟨pg_name hN hi hx hf, fun {B H σ st st' F v d Q} S r e k => by
  cases e
  have p : PostV Γ B H F σ (.imm d) st v H B [] F := PostV.imm (PostS.refl S) r
  obtain ⟨F2, q⟩ := PostV.store (fx := []) (i := i) (fun z => nomatch z) p
  refine k _ F2 q.s (fun a m => ?_) (List.length_set ..) fun j hj => List.getElem?_set_ne fun e => hj (by simp [e])
  rcases q.u.new a m with z | z
  · exact z
  · exact (q.s.there a m z).elim⟩
theorem gps_nil {X : Cx} : GPs Γ X [] [] L2.gNil [] := ⟨pgs_nil, fun {B H σ st st' F v d Q} S r e k => by
  cases r with
  | nil =>
    cases e
    exact ⟨rfl, k σ F S (fun _ m => m) rfl fun _ _ => rfl⟩
  | cons _ _ => exact nomatch e⟩
theorem gps_cons {X : Cx} {e : Expr} {es : List Expr} {p1 p2 : List Nat} {t1 : TG} {t2 : TGs} {g : Pat} {gs : List Pat} (h1 : GP Γ X e p1 t1 g) (h2 : GPs Γ X es p2 t2 gs)
    (hs : (assignEach (e :: es) X.env).map (·.2) = assign e X.env :: (assignEach es X.env).map (·.2) := by rfl) : GPs Γ X (e :: es) (p1 ++ p2) (L2.gCons t1 t2) (g :: gs) := ⟨pgs_cons h1.p h2.p hs, fun {B H σ st st' F v d Q} S r e k => by
  cases r with
  | nil => exact nomatch e
  | @cons v1 d1 vs ds r1 r2 =>
    refine ⟨v1, vs, rfl, ?_⟩
    have e' : (g d1 st).bind (gAll gs ds) = some st' := e
    cases q : g d1 st with
    | none => rw [q] at e'; exact nomatch e'
    | some s1 =>
      rw [q] at e'
      refine h1.o S r1 q fun σ1 F1 S1 f1 l1 k1 => ?_
      exact h2.o S1 r2 e' fun σ2 F2 S2 f2 l2 k2 => k σ2 F2 S2 (fun a m => f1 a (f2 a m)) (l2.trans l1) fun i hi => (k2 i fun z => hi (List.mem_append_right _ z)).trans (k1 i fun z => hi (List.mem_append_left _ z))⟩
theorem gAll_len : ∀ {gs : List Pat} {ds : List D} {st st' : G.St}, gAll gs ds st = some st' → gs.length = ds.length
  | [], [], _, _, _ => rfl
  | [], _ :: _, _, _, h => nomatch h
  | _ :: _, [], _, _, h => nomatch h
  | g :: gs, d :: ds, st, st', h => by
    have h' : (g d st).bind (gAll gs ds) = some st' := h
    cases q : g d st with
    | none => rw [q] at h'; exact nomatch h'
    | some s1 =>
      rw [q] at h'
      simp [gAll_len h']
theorem gp_tup {X : Cx} {es : List Expr} {k : Nat} {pos : Pos} {ps : List Nat} {tg : TGs} {gs : List Pat} (hK : X.K = Γ.K) (hc : X.calm = true) (h : GPs Γ X es ps tg gs)
    (hn : (assignEach es X.env).length = gs.length := by rfl) (hst : (assignEach es X.env).findIdx? (·.1) = none := by rfl) : GP Γ X (.Tuple es k pos) ps (L2.gTup X.K gs.length tg) (gTup gs) := ⟨pg_tup hc h.p hn hst, fun {B H σ st st' F v d Q} S r e k => by
  cases r with
  | @tup a vs l hs rl =>
    refine ⟨a, vs, rfl, ?_, ?_, h.o S rl e k⟩
    · rw [hK]
      exact S.ex.st hs
    · rw [rl.len, gAll_len e]
  | _ => exact nomatch e⟩
theorem gp_unp {X : Cx} {es : List Expr} {k : Nat} {pos : Pos} {ps : List Nat} {tg : TGs} {gs : List Pat} (hK : X.K = Γ.K) (hc : X.calm = true) (h : GPs Γ X es ps tg gs)
    (hn : (assignEach es X.env).length = gs.length := by rfl) (hst : (assignEach es X.env).findIdx? (·.1) = none := by rfl) : GP Γ X (.Tuple es k pos) ps (L2.gUnl X.K gs.length tg) (gUnp gs) := ⟨pg_unl hc h.p hn hst, fun {B H σ st st' F v d Q} S r e k => by
  cases r with
  | @lst a vs l hs rl =>
    refine ⟨a, vs, rfl, ?_, ?_, h.o S rl e k⟩
    · rw [hK]
      exact S.ex.sl (SqL.of hs)
    · rw [rl.len, gAll_len e]
  | _ => exact nomatch e⟩
theorem gs_asg {X : Cx} {tg e : Expr} {m : Sm T} {ps : List Nat} {g : TG} {gg : Pat} {pos : Pos} (he : PE X e (tSm Γ W m)) (hg : GP Γ X tg ps g gg) (hf : ∀ i ∈ fx, i ∉ ps := by decide) (hs : swapsWithSole [tg] e pos.line X.env = pure false := by rfl) (hw : swappedStores [tg] e X.env = pure none := by rfl)
    (h1 : (assignEach [tg] X.env).map (·.2) = [assign tg X.env] := by rfl) : PS X (.Assign [tg] e pos) (tSs Γ W fx (sAsg gg m)) := PS.weak (ps_asg he hg.p hs hw h1) fun D σ H h =>
  e_sthen (Q := fun x H1 => g x σ H1 D.nx) h fun v t B H F B1 H1 st1 G1 F1 p q => by
    obtain ⟨B2, r, p'⟩ := p.frz
    cases z : gg t.toD st1 with
    | none => rw [z] at q; exact q.elim
    | some st2 =>
      rw [z] at q
      exact hg.o p'.s r z fun σ' F' S' f l k => q σ' H1 B2 F' ⟨S', p'.u.weak f, fun i hi => k i (hf i hi), l⟩

/-! ### what a loop walks -/
variable (Γ) in
/-- the iterator J yields the items ds -/
def Src (B : Hp) (J : It) (ds : List D) : Prop := ∀ i H, Sub B H → (ds.length ≤ i → J.stop i H) ∧ ∀ d, ds[i]? = some d → J.go i H ∧ ∀ x H', J.yld i H x H' → ∃ B', Upd B H [] B' H' [] ∧ Sub B' H' ∧ Rp Γ B' x d
theorem Src.mono {J : It} {ds : List D} (e : Sub B B') (h : Src Γ B J ds) : Src Γ B J ds := h
variable (Γ) in
def tIm (W : L2.WX) (src : Si) : TI := fun σ H R => ∃ B st F, Stt Γ B H σ st F ∧ RunP (src st) (fun ds st' => ∀ J H' B' F', PostS Γ B H F σ st' H' B' F' → Src Γ B' J ds → R J H') (OutX Γ W B H F σ)
/-- an item that came, over another ground -/
theorem upd_item {J : It} {ds : List D} {i : Nat} {d : D} (s : Src Γ B J ds) (e : Sub B B1) (ex : Sub B1 H) (hd : ds[i]? = some d) {x : V} {H' : Hp} (y : J.yld i H x H') : ∃ B', Upd B1 H [] B' H' [] ∧ Sub B' H' ∧ Rp Γ B' x d := by
  obtain ⟨B0, u, s0, r⟩ := (((s i H (e.trans ex)).2 d hd).2 x H' y)
  have mrg : ∀ a o, B1 a = some o → H' a = some o := fun a o h => u.keep a o (ex a o h) fun z => nomatch z
  refine ⟨fun a => match B1 a with | some o => some o | none => B0 a, ⟨fun a o h => by simp only [h], u.keep, u.dom, fun _ m => (nomatch m), fun a o h => ?_⟩, fun a o h => ?_, r.mono Γ fun a o h => ?_⟩
  · cases q : B1 a with
    | some o' => simp only [q] at h; exact .inl h
    | none =>
      simp only [q] at h
      rcases u.frz a o h with z | z | z
      · rw [e a o z] at q; cases q
      · exact nomatch z
      · exact .inr (.inr z)
  · cases q : B1 a with
    | some o' =>
      simp only [q] at h
      cases h
      exact mrg a _ q
    | none => simp only [q] at h; exact s0 a o h
  · cases q : B1 a with
    | some o' =>
      have := mrg a o' q
      rw [s0 a o h] at this
      exact this.symm
    | none => simp only; exact h
theorem RpL.get {d : D} : ∀ {vs : List V} {ds : List D} {i : Nat}, RpL Γ B vs ds → ds[i]? = some d → ∃ x, vs[i]? = some x ∧ Rp Γ B x d
  | _, _, _, .nil, q => by simp at q
  | _, _, 0, .cons r1 r2, q => by
    have e := Option.some.inj q
    exact ⟨_, rfl, e ▸ r1⟩
  | _, _, i + 1, .cons r1 r2, q => RpL.get (i := i) r2 q
theorem Src.list {a : Addr} {vs : List V} {ds : List D} (h : SqL Γ.K B a vs) (r : RpL Γ B vs ds) : Src Γ B (Itl Γ.K a) ds := fun i H e => by
  have hs := e.sl h
  refine ⟨fun q => ⟨vs, hs, by rw [r.len]; exact q⟩, fun d q => ?_⟩
  obtain ⟨x, hx, rx⟩ := RpL.get r q
  refine ⟨⟨vs, x, hs, hx⟩, fun y H' z => ?_⟩
  obtain ⟨rfl, z⟩ := z
  have e1 := z vs hs
  rw [hx] at e1
  cases e1
  exact ⟨B, .refl, e, rx⟩
theorem Src.tup {a : Addr} {vs : List V} {ds : List D} (h : SqT Γ.K B a vs) (r : RpL Γ B vs ds) : Src Γ B (Itt Γ.K a) ds := fun i H e => by
  have hs := e.st h
  refine ⟨fun q => ⟨vs, hs, by rw [r.len]; exact q⟩, fun d q => ?_⟩
  obtain ⟨x, hx, rx⟩ := RpL.get r q
  refine ⟨⟨vs, x, hs, hx⟩, fun y H' z => ?_⟩
  obtain ⟨rfl, z⟩ := z
  have e1 := z vs hs
  rw [hx] at e1
  cases e1
  exact ⟨B, .refl, e, rx⟩
theorem rng_get : ∀ {n : Nat} {lo c : Int} {i : Nat} {d : D}, (rng lo c n)[i]? = some d → i < n ∧ d = .int (lo + (i : Int) * c)
  | 0, _, _, _, _, h => by simp [rng] at h
  | n + 1, lo, c, 0, d, h => by
    have e : D.int lo = d := by simpa [rng] using h
    refine ⟨Nat.succ_pos _, e ▸ ?_⟩
    congr 1
    simp
  | n + 1, lo, c, i + 1, d, h => by
    obtain ⟨h1, h2⟩ := rng_get (n := n) (lo := lo + c) (c := c) (i := i) (d := d) (by simpa [rng] using h)
    refine ⟨Nat.succ_lt_succ h1, h2.trans ?_⟩
    congr 1
    have : ((i + 1 : Nat) : Int) * c = (i : Int) * c + c := by rw [Int.natCast_add, Int.add_mul]; simp
    rw [this]
    omega
theorem rng_len (n : Nat) : ∀ (lo c : Int), (rng lo c n).length = n := by
  induction n with
  | zero => intro _ _; rfl
  | succ n ih => intro lo c; show (rng (lo + c) c n).length + 1 = _; rw [ih]
theorem Src.range {lo : Int} {n : Nat} : Src Γ B (Itr lo n) (rng lo 1 n) := fun i H e => by
  refine ⟨fun q => by rw [rng_len] at q; exact q, fun d q => ?_⟩
  obtain ⟨h1, rfl⟩ := rng_get q
  refine ⟨h1, fun x H' z => ?_⟩
  obtain ⟨rfl, rfl⟩ := z
  rw [Int.mul_one]
  exact ⟨B, .refl, e, .int _⟩
theorem Src.rangeC {lo c : Int} {n : Nat} : Src Γ B (Itc lo c n) (rng lo c n) := fun i H e => by
  refine ⟨fun q => by rw [rng_len] at q; exact q, fun d q => ?_⟩
  obtain ⟨h1, rfl⟩ := rng_get q
  refine ⟨h1, fun x H' z => ?_⟩
  obtain ⟨rfl, rfl⟩ := z
  exact ⟨B, .refl, e, .int _⟩
section
variable {X : Cx} {tg l a b c : Expr} {m : Sm T} {p pos : Pos} {ra : Sa}
theorem gi_list (hK : X.K = Γ.K) (hl : PE X l (tSm Γ W m)) : PI X tg l (tIm Γ W (iList m)) := PI.weak (pi_list hl) fun σ H R h => by
  obtain ⟨B, st, F, S, h⟩ := h
  unfold iList Sm.bind at h
  rw [run_bind] at h
  refine ⟨B, st, F, S, h.mono (fun t st1 q v H1 B1 G1 F1 p => ?_) fun _ _ q => q⟩
  obtain ⟨B2, r, p'⟩ := p.frz
  rw [hK]
  cases e : t.toD with
  | lst ds =>
    rw [e] at q r
    cases r with
    | @lst a vs _ hs rl => exact ⟨a, rfl, ⟨vs, p'.s.ex.sl (SqL.of hs)⟩, q _ H1 B2 F1 p' (Src.list (SqL.of hs) rl)⟩
  | rol ds =>
    rw [e] at q r
    cases r with
    | @rol a vs _ hs rl => exact ⟨a, rfl, ⟨vs, p'.s.ex.sl hs⟩, q _ H1 B2 F1 p' (Src.list hs rl)⟩
  | _ => rw [e] at q; exact q.elim
theorem gi_tup (hK : X.K = Γ.K) (hl : PE X l (tSm Γ W m)) : PI X tg l (tIm Γ W (iTup m)) := PI.weak (pi_tup hl) fun σ H R h => by
  obtain ⟨B, st, F, S, h⟩ := h
  unfold iTup Sm.bind at h
  rw [run_bind] at h
  refine ⟨B, st, F, S, h.mono (fun t st1 q v H1 B1 G1 F1 p => ?_) fun _ _ q => q⟩
  obtain ⟨B2, r, p'⟩ := p.frz
  rw [hK]
  cases e : t.toD with
  | tup ds =>
    rw [e] at q r
    cases r with
    | @tup a vs _ hs rl => exact ⟨a, rfl, ⟨vs, p'.s.ex.st hs⟩, q _ H1 B2 F1 p' (Src.tup hs rl)⟩
  | _ => rw [e] at q; exact q.elim
theorem small_62 {i : Int} (h : small i = true) : -(2 ^ 62) ≤ i ∧ i < 2 ^ 62 ∧ -1000000000 ≤ i ∧ i ≤ 1000000000 := by
  unfold small at h
  simp only [Bool.and_eq_true, decide_eq_true_eq] at h
  omega
theorem e_range {f : List D → Option (List D)} {R : It → Hp → Prop} {K : List V → Hp → Prop} (h : tIm Γ W (iRange f ra) σ H R)
    (n : ∀ vs ds its B1 H1, Sub B1 H1 → RpL Γ B1 vs ds → f ds = some its → (∀ J, Src Γ B1 J its → R J H1) → K vs H1) : tAm Γ W ra σ H K := by
  obtain ⟨B, st, F, S, h⟩ := h
  unfold iRange Sm.bind at h
  rw [run_bind] at h
  refine ⟨B, st, F, S, h.mono (fun ps st1 q vs H1 B1 G1 F1 p => ?_) fun _ _ q => q⟩
  obtain ⟨B2, r, p'⟩ := p.frz
  obtain ⟨its, e, q⟩ := run_ofO q
  exact n vs _ its B2 H1 p'.s.ex r e fun J s => q J H1 B2 F1 p' s
theorem gi_range1 (hg : Gl X "range") (hm : X.mg "range" = none) (ha : PA X [a] (tAm Γ W ra)) (hs : starEach [a] X.env = [(false, eval a X.env)] := by rfl) : PI X tg (.Call (.Name "range" p) [a] [] pos) (tIm Γ W (iRange rng1 ra)) :=
  PI.weak (pi_range1 hg hm ha hs) fun σ H R h => e_range h fun vs ds its B1 H1 ex r e k => by
    match ds, r, e with
    | [.int n], .cons (.int _) .nil, e =>
      have e' : (if small n then some (rng 0 1 n.toNat) else none) = some its := e
      by_cases z : small n = true
      · rw [if_pos z] at e'
        cases e'
        have b := small_62 z
        exact ⟨n, rfl, b.1, b.2.1, k _ Src.range⟩
      · rw [if_neg z] at e'
        exact nomatch e'
theorem gi_range2 (hg : Gl X "range") (hm : X.mg "range" = none) (ha : PA X [a, b] (tAm Γ W ra)) (hs : starEach [a, b] X.env = [(false, eval a X.env), (false, eval b X.env)] := by rfl) (hs2 : starEach [b] X.env = [(false, eval b X.env)] := by rfl) :
    PI X tg (.Call (.Name "range" p) [a, b] [] pos) (tIm Γ W (iRange rng2 ra)) :=
  PI.weak (pi_range2 hg hm ha hs hs2) fun σ H R h => e_range h fun vs ds its B1 H1 ex r e k => by
    match ds, r, e with
    | [.int n, .int n2], .cons (.int _) (.cons (.int _) .nil), e =>
      have e' : (if small n && small n2 then some (rng n 1 (n2 - n).toNat) else none) = some its := e
      by_cases z : (small n && small n2) = true
      · rw [if_pos z] at e'
        cases e'
        rw [Bool.and_eq_true] at z
        have b := small_62 z.1
        have b2 := small_62 z.2
        exact ⟨n, n2, rfl, ⟨b.1, b.2.1, b2.1, b2.2.1⟩, k _ Src.range⟩
      · rw [if_neg z] at e'
        exact nomatch e'
theorem gi_range3 (hg : Gl X "range") (hm : X.mg "range" = none) (ha : PA X [a, b, c] (tAm Γ W ra))
    (hs : starEach [a, b, c] X.env = (false, eval a X.env) :: starEach [b, c] X.env := by rfl) (hpl : (backTo pos (starEach [b, c] X.env)).any (·.1) = false := by rfl) :
    PI X tg (.Call (.Name "range" p) [a, b, c] [] pos) (tIm Γ W (iRange rng3 ra)) :=
  PI.weak (pi_range3 hg hm ha hs hpl) fun σ H R h => e_range h fun vs ds its B1 H1 ex r e k => by
    match ds, r, e with
    | [.int n, .int n2, .int n3], .cons (.int _) (.cons (.int _) (.cons (.int _) .nil)), e =>
      have e' : (if small n && small n2 && small n3 && decide (0 < n3) then some (rng n n3 (if n < n2 then (n2 - n - 1) / n3 + 1 else 0).toNat) else none) = some its := e
      by_cases z : (small n && small n2 && small n3 && decide (0 < n3)) = true
      · rw [if_pos z] at e'
        cases e'
        simp only [Bool.and_eq_true, decide_eq_true_eq] at z
        obtain ⟨⟨⟨z1, z2⟩, z3⟩, z4⟩ := z
        have b := small_62 z1
        have b2 := small_62 z2
        have b3 := small_62 z3
        have es : Builtin.Range.rangeSize n n2 n3 = ((if n < n2 then (n2 - n - 1) / n3 + 1 else 0).toNat : Int) := by
          unfold Builtin.Range.rangeSize
          rw [if_pos (show n3 > 0 from z4)]
          by_cases y : n < n2
          · rw [if_pos y]
            have := Int.ediv_nonneg (show (0 : Int) ≤ n2 - n - 1 by omega) (Int.le_of_lt z4)
            omega
          · rw [if_neg y]
            rfl
        refine ⟨n, n2, n3, _, rfl, ⟨by omega, by omega, ?_, es⟩, k _ Src.rangeC⟩
        unfold Builtin.Range.small
        rw [es]
        have hb : ((if n < n2 then (n2 - n - 1) / n3 + 1 else 0).toNat : Int) ≤ 2000000001 := by
          by_cases y : n < n2
          · rw [if_pos y]
            have h1 := Int.ediv_nonneg (show (0 : Int) ≤ n2 - n - 1 by omega) (Int.le_of_lt z4)
            have h2 : (n2 - n - 1) / n3 ≤ n2 - n - 1 := Int.ediv_le_self _ (by omega)
            omega
          · rw [if_neg y]
            decide
        simp only [Builtin.Range.rangeFitsLong, Bool.and_eq_true, Bool.or_eq_true, decide_eq_true_eq, beq_iff_eq]
        rw [if_pos z4, Bool.and_eq_true, decide_eq_true_eq, decide_eq_true_eq]
        have hq : (0 : Int) ≤ ((if n < n2 then (n2 - n - 1) / n3 + 1 else 0).toNat : Int) := Int.natCast_nonneg _
        omega
      · rw [if_neg z] at e'
        exact nomatch e'
end
end
end G
set_option Elab.async false
set_option linter.all false
set_option maxRecDepth 100000
/-! Loops, comprehensions, methods of owned things, defs. -/
namespace G
open PySem L2
section
variable {Γ : Wh}
variable {B H B' H' B1 H1 B2 H2 : Hp} {σ σ1 σ2 : L2.St} {st st1 st2 : G.St} {F F' F1 F2 F3 F4 G1 G2 : List Addr} {t t1 t2 : T} {v v1 v2 : V} {W : L2.WX} {fx : List Nat}

/-- the heap grew by data -/
theorem Stt.grow (S : Stt Γ B H σ st F) (u : Upd B H [] B' H' []) (ex : Sub B' H') : PostT Γ B H F fx σ σ st H' B' F :=
  ⟨⟨ex, S.sl.at u.b (u.at fun _ _ z => nomatch z), S.nd, u.frB (fun _ _ z => nomatch z) S.fr S.there⟩, Upd.refl.comp u (fun _ z => nomatch z) fun a m => .inr m, fun _ _ => rfl, rfl⟩
theorem drop_cons {α : Type} {l : List α} {i : Nat} (h : i < l.length) : ∃ d, l[i]? = some d ∧ l.drop i = d :: l.drop (i + 1) := ⟨l[i], List.getElem?_eq_getElem h, List.drop_eq_getElem_cons h⟩
section
variable {X : Cx} {tgt it : Expr} {bs : List Stmt} {pos : Pos} {ps : List Nat} {tg : TG} {g : Pat} {src : Si} {body : Ss} {wi : TI}
theorem e_for {D : Ends} (hg : PatOk Γ ps tg g) (hf : ∀ i ∈ fx, i ∉ ps) (h : tSs Γ W fx (sFor src g body) D σ H) : tFor (tIm Γ W src) tg (tSs Γ W fx body) D σ H := by
  obtain ⟨B, st, F, S, h⟩ := h
  unfold sFor Sm.bind at h
  rw [run_bind] at h
  refine ⟨B, st, F, S, h.mono (fun ds st1 q J H1 B1 F1 p s => ?_) fun _ _ q => OutS.x q⟩
  let N : Nat → L2.St → Hp → Prop := fun i σ' H' => ∃ B' st' F', Stt Γ B' H' σ' st' F' ∧ Sub B1 B' ∧ RunP (loopFor g body (ds.drop i) st') (EndS Γ D fx σ' B' H' F') (OutS Γ W fx σ' B' H' F')
  refine ⟨fun i m σ' H' => m = ds.length - i ∧ i ≤ ds.length ∧ N i σ' H', ⟨ds.length, by simp, Nat.zero_le _, B1, st1, F1, p.s, Sub.refl _, ?_⟩, ?_⟩
  · exact RunP.mono q (fun f st' => EndS.after (PostT.ofS p)) fun x st' => OutS.after (PostT.ofS p)
  · rintro i m σ' H' ⟨rfl, hi, B', st', F', S', e, r⟩
    by_cases hlt : i < ds.length
    · obtain ⟨d, hd, hdr⟩ := drop_cons hlt
      rw [hdr] at r
      have sj := (s i H' (e.trans S'.ex)).2 d hd
      refine .inr ⟨sj.1, N (i + 1), fun σ2 H2 n => ⟨ds.length - (i + 1), by omega, rfl, hlt, n⟩, fun x H2 y => ?_⟩
      obtain ⟨B2, u, ex2, rx⟩ := upd_item s e S'.ex hd y
      have p1 : PostT Γ B' H' F' fx σ' σ' st' H2 B2 F' := S'.grow u ex2
      cases z : g d st' with
      | none =>
        have r' : RunP (match g d st' with
          | none => .no
          | some st1 => (body st1).bind fun f st2 => match f with
            | .nx => loopFor g body (ds.drop (i + 1)) st2
            | .ct => loopFor g body (ds.drop (i + 1)) st2
            | .bk => .ok .nx st2
            | .rt t => .ok (.rt t) st2) _ _ := r
        rw [z] at r'
        exact r'.elim
      | some st2 =>
        have r' : RunP (match g d st' with
          | none => .no
          | some st1 => (body st1).bind fun f st2 => match f with
            | .nx => loopFor g body (ds.drop (i + 1)) st2
            | .ct => loopFor g body (ds.drop (i + 1)) st2
            | .bk => .ok .nx st2
            | .rt t => .ok (.rt t) st2) _ _ := r
        rw [z] at r'
        have r2 : RunP ((body st2).bind fun f st2 => match f with
            | .nx => loopFor g body (ds.drop (i + 1)) st2
            | .ct => loopFor g body (ds.drop (i + 1)) st2
            | .bk => .ok .nx st2
            | .rt t => .ok (.rt t) st2) _ _ := r'
        rw [run_bind] at r2
        refine hg p1.s rx z fun σ2 F2 S2 f l k => ?_
        have p2 : PostT Γ B' H' F' fx σ' σ2 st2 H2 B2 F2 := ⟨S2, p1.u.weak f, fun j hj => k j (hf j hj), l⟩
        refine ⟨B2, st2, F2, S2, r2.mono (fun fl st3 q => ?_) fun x st3 q => OutS.after p2 q⟩
        cases fl with
        | nx => exact fun σ3 H3 B3 F3 p3 => ⟨B3, st3, F3, p3.s, (e.trans p2.u.b).trans p3.u.b, RunP.mono q (fun f st' => EndS.after (p2.trans p3)) fun x st' => OutS.after (p2.trans p3)⟩
        | ct => exact fun σ3 H3 B3 F3 p3 => ⟨B3, st3, F3, p3.s, (e.trans p2.u.b).trans p3.u.b, RunP.mono q (fun f st' => EndS.after (p2.trans p3)) fun x st' => OutS.after (p2.trans p3)⟩
        | bk => exact fun σ3 H3 B3 F3 p3 => q σ3 H3 B3 F3 (p2.trans p3)
        | rt t => exact fun σ3 v H3 B3 G3 F3 p3 => q σ3 v H3 B3 G3 F3 (PostR.after p2 p3)
    · have ei : i = ds.length := by omega
      subst ei
      refine .inl ⟨(s ds.length H' (e.trans S'.ex)).1 (Nat.le_refl _), ?_⟩
      rw [List.drop_length] at r
      exact r σ' H' B' F' (PostT.refl S')
theorem gs_for (hp : PassesOwn (model X.prog X.w) X.A X.env X.xe) (hc : X.calm = true) (hi : PI X tgt it (tIm Γ W src)) (hg : GP Γ X tgt ps tg g) (hb : PSs X bs (tSs Γ W fx body)) (hf : ∀ i ∈ fx, i ∉ ps := by decide)
    (hs : ∀ x, foldedSetIterable it X.env x = pure x := by intro _; rfl) : PS X (.For tgt it bs [] pos) (tSs Γ W fx (sFor src g body)) := PS.weak (ps_for hp hc hi hg.p hb hs) fun D σ H => e_for hg.o hf
theorem e_while {D : Ends} {c : Sm Bool} {n : Nat} (h : tSs Γ W fx (loopW c body n) D σ H) : tWhile (tBm Γ W c) (tSs Γ W fx body) D σ H := by
  refine ⟨fun m σ H => tSs Γ W fx (loopW c body m) D σ H, ⟨n, h⟩, fun m σ H h => ?_⟩
  obtain ⟨B, st, F, S, h⟩ := h
  cases m with
  | zero => exact h.elim
  | succ m =>
    have h' : RunP ((c st).bind fun b => if b then Sm.bind body fun f => match f with
      | .nx => loopW c body m
      | .ct => loopW c body m
      | .bk => fun st => .ok .nx st
      | .rt t => fun st => .ok (.rt t) st
      else fun st => .ok .nx st) (EndS Γ D fx σ B H F) (OutS Γ W fx σ B H F) := h
    rw [run_bind] at h'
    refine ⟨B, st, F, S, h'.mono (fun b st1 q H1 B1 F1 p => ?_) fun _ _ q => OutS.x q⟩
    have p0 : PostT Γ B H F fx σ σ st1 H1 B1 F1 := PostT.ofS p
    cases b with
    | false => exact q σ H1 B1 F1 p0
    | true =>
      refine ⟨fun σ H => tSs Γ W fx (loopW c body m) D σ H, fun σ' H' w => ⟨m, Nat.lt_succ_self m, w⟩, B1, st1, F1, p.s, ?_⟩
      have q' : RunP ((body st1).bind fun f => match f with
        | .nx => loopW c body m
        | .ct => loopW c body m
        | .bk => fun st => .ok .nx st
        | .rt t => fun st => .ok (.rt t) st) (EndS Γ D fx σ B H F) (OutS Γ W fx σ B H F) := q
      rw [run_bind] at q'
      refine q'.mono (fun fl st2 q => ?_) fun x st' => OutS.after p0
      cases fl with
      | nx => exact fun σ3 H3 B3 F3 p3 => ⟨B3, st2, F3, p3.s, RunP.mono q (fun f st' => EndS.after (p0.trans p3)) fun x st' => OutS.after (p0.trans p3)⟩
      | ct => exact fun σ3 H3 B3 F3 p3 => ⟨B3, st2, F3, p3.s, RunP.mono q (fun f st' => EndS.after (p0.trans p3)) fun x st' => OutS.after (p0.trans p3)⟩
      | bk => exact fun σ3 H3 B3 F3 p3 => q σ3 H3 B3 F3 (p0.trans p3)
      | rt t => exact fun σ3 v H3 B3 G3 F3 p3 => q σ3 v H3 B3 G3 F3 (PostR.after p0 p3)
theorem gs_while (n : Nat) {c : Expr} {mc : Sm Bool} (hp : PassesOwn (model X.prog X.w) X.A X.env X.xe) (hc : PT X c (tBm Γ W mc)) (hb : PSs X bs (tSs Γ W fx body)) : PS X (.While c bs [] pos) (tSs Γ W fx (loopW mc body n)) :=
  PS.weak (ps_while hp hc hb) fun D σ H => e_while
end

/-! ### comprehensions -/
/-- the slots vs taken off the state, and how they come back -/
theorem Sl.wipe (S : Stt Γ B H σ st F) : ∀ vs : List Nat, ∃ Fh Fi, Stt Γ B H (L2.wipe σ vs) (G.wipe st vs) Fi ∧ (∀ a ∈ Fi, a ∈ F) ∧ (∀ a ∈ Fh, a ∈ F) ∧ (∀ a ∈ Fh, a ∉ Fi) ∧
    ∀ B' H' sx Fx, Sub B B' → At H H' Fh → Sl Γ B' H' (L2.wipe σ vs) sx Fx → Fx.Nodup → (∀ a ∈ Fh, a ∉ Fx) → ∃ Fy, Sl Γ B' H' σ (G.back st vs sx) Fy ∧ Fy.Nodup ∧ ∀ a ∈ Fy, a ∈ Fh ∨ a ∈ Fx
  | [] => ⟨[], F, S, fun _ m => m, fun _ m => (nomatch m), fun _ m => (nomatch m), fun B' H' sx Fx _ _ s n _ => ⟨Fx, s, n, fun a m => .inr m⟩⟩
  | i :: vs => by
    obtain ⟨Fh, Fi, S1, i1, h1, d1, k1⟩ := Sl.wipe S vs
    by_cases hl : i < (G.wipe st vs).length
    · obtain ⟨A, Gg, C, rfl, g, p⟩ := S1.sl.open hl
      have nd := nd_mid.mp S1.nd
      have nd2 := nd_app.mp nd
      have sub : ∀ a ∈ A ++ C, a ∈ A ++ (Gg ++ C) := fun a m => by
        rcases List.mem_append.mp m with m | m
        · exact List.mem_append_left _ m
        · exact List.mem_append_right _ (List.mem_append_right _ m)
      have subG : ∀ a ∈ Gg, a ∈ A ++ (Gg ++ C) := fun a m => List.mem_append_right _ (List.mem_append_left _ m)
      refine ⟨Gg ++ Fh, A ++ C, ⟨S1.ex, (p B H (Sub.refl B) at_self).2 none, nd2.2.1, fun a m => S1.fr a (sub a m)⟩, fun a m => i1 a (sub a m), fun a m => ?_, fun a m z => ?_, fun B' H' sx Fx e k s n d => ?_⟩
      · rcases List.mem_append.mp m with m | m
        · exact i1 a (subG a m)
        · exact h1 a m
      · rcases List.mem_append.mp m with m | m
        · exact nd2.2.2 a m z
        · exact d1 a m (sub a z)
      · have hl2 : i < sx.length := by
          rw [← s.len]
          show i < ((L2.wipe σ vs).set i none).length
          rw [List.length_set, S1.sl.len]
          exact hl
        obtain ⟨A', G', C', rfl, _, p'⟩ := s.open hl2
        have ndx := nd_app.mp (nd_mid.mp n)
        have sub' : ∀ a ∈ A' ++ C', a ∈ A' ++ (G' ++ C') := fun a m => by
          rcases List.mem_append.mp m with m | m
          · exact List.mem_append_left _ m
          · exact List.mem_append_right _ (List.mem_append_right _ m)
        have p' := p' B' H' (Sub.refl _) at_self
        have dG : ∀ a ∈ Gg, a ∉ A' ++ C' := fun a m z => d a (List.mem_append_left _ m) (sub' a z)
        have dH : ∀ a ∈ Fh, a ∉ A' ++ C' := fun a m z => d a (List.mem_append_right _ m) (sub' a z)
        have es : ∀ x, (L2.wipe σ vs)[i]? = some x → ((L2.wipe σ vs).set i none).set i x = L2.wipe σ vs := fun x hx => by
          rw [List.set_set]
          exact set_self hx
        have hx0 : ∃ x, (L2.wipe σ vs)[i]? = some x := by
          have : i < (L2.wipe σ vs).length := by rw [S1.sl.len]; exact hl
          exact ⟨_, List.getElem?_eq_getElem this⟩
        show ∃ Fy, Sl Γ B' H' σ (G.back st vs (sx.set i ((G.wipe st vs)[i]?.getD none))) Fy ∧ Fy.Nodup ∧ _
        cases q : (G.wipe st vs)[i]? with
        | none => exact absurd (List.getElem?_eq_none_iff.mp q) (Nat.not_le_of_lt hl)
        | some o =>
          cases o with
          | none =>
            obtain ⟨x, hx⟩ := hx0
            have s2 := p'.2 x
            have s2' : Sl Γ B' H' (((L2.wipe σ vs).set i none).set i x) (sx.set i none) (A' ++ C') := s2
            rw [es x hx] at s2'
            obtain ⟨Fy, sy, ny, zy⟩ := k1 B' H' _ _ e k.r s2' ndx.2.1 dH
            exact ⟨Fy, sy, ny, fun a m => (zy a m).imp (fun m => List.mem_append_right _ m) (sub' a)⟩
          | some t =>
            obtain ⟨v, hv, o⟩ := g t q
            have s2 := p'.1 v t Gg (o.at e k.l)
            have s2' : Sl Γ B' H' (((L2.wipe σ vs).set i none).set i (some v)) (sx.set i (some t)) (A' ++ (Gg ++ C')) := s2
            rw [es _ hv] at s2'
            have ndG : Gg.Nodup := nd2.1
            have n2 : (A' ++ (Gg ++ C')).Nodup := nd_mid.mpr (nd_app.mpr ⟨ndG, ndx.2.1, dG⟩)
            have d2 : ∀ a ∈ Fh, a ∉ A' ++ (Gg ++ C') := fun a m z => by
              rcases List.mem_append.mp z with z | z
              · exact dH a m (List.mem_append_left _ z)
              · rcases List.mem_append.mp z with z | z
                · exact d1 a m (subG a z)
                · exact dH a m (List.mem_append_right _ z)
            obtain ⟨Fy, sy, ny, zy⟩ := k1 B' H' _ _ e k.r s2' n2 d2
            refine ⟨Fy, sy, ny, fun a m => ?_⟩
            rcases zy a m with z | z
            · exact .inl (List.mem_append_right _ z)
            · rcases List.mem_append.mp z with z | z
              · exact .inr (List.mem_append_left _ z)
              · rcases List.mem_append.mp z with z | z
                · exact .inl (List.mem_append_left _ z)
                · exact .inr (List.mem_append_right _ (List.mem_append_right _ z))
    · have e1 : G.wipe st (i :: vs) = G.wipe st vs := set_out hl
      have hl2 : ¬ i < (L2.wipe σ vs).length := by rw [S1.sl.len]; exact hl
      have e2 : L2.wipe σ (i :: vs) = L2.wipe σ vs := set_out hl2
      rw [e1, e2]
      refine ⟨Fh, Fi, S1, i1, h1, d1, fun B' H' sx Fx e k s n d => ?_⟩
      have hx : ¬ i < sx.length := by rw [← s.len]; exact hl2
      have e3 : G.back st (i :: vs) sx = G.back st vs sx := by
        show G.back st vs (sx.set i _) = _
        rw [set_out hx]
      rw [e3]
      exact k1 B' H' sx Fx e k s n d

theorem run_nox {α : Type} {m : Sm α} {K : α → G.St → Prop} {KX KX' : G.X → G.St → Prop} (h : RunP (nox m st) K KX) : RunP (m st) K KX' := by
  unfold nox at h
  cases e : m st with
  | no => rw [e] at h; exact h
  | ok a s => rw [e] at h; exact h
  | ex x s => rw [e] at h; exact h.elim
theorem run_nox' {α : Type} {m : Sm α} {K : α → G.St → Prop} {KX : G.X → G.St → Prop} (h : RunP (nox m st) K KX) : RunP (nox m st) K fun _ _ => False := by
  unfold nox at h ⊢
  cases e : m st with
  | no => rw [e] at h; exact h
  | ok a s => rw [e] at h; exact h
  | ex x s => rw [e] at h; exact h.elim
abbrev W0 : L2.WX := fun _ _ _ _ => False
section
variable {own : List Nat} {tg : TG} {g : Pat} {src : Si} {test : Sm Bool} {elt : Sm T} {ps : List Nat}
/-- what stands within a comprehension -/
structure LcSt (own : List Nat) (g : Pat) (test : Sm Bool) (elt : Sm T) (ds : List D) (Da : Addr) (B0 H0 : Hp) (σ : L2.St) (F0 : List Addr) (K : List T → G.St → Prop) (i : Nat) (H : Hp) (B : Hp) (st : G.St) (F G : List Addr) (vs : List V) (acc : List T) : Prop where
  s : Stt Γ B H (L2.wipe σ own) st F
  d : H Da = some (.lst vs)
  o : OwL Γ B H vs acc G
  nd : (Da :: (G ++ F)).Nodup
  fr : ∀ a ∈ Da :: G, B a = none
  u : Upd B0 H0 F0 B H (Da :: (G ++ F))
  r : RunP (loopLC own g test elt (ds.drop i) acc st) K fun _ _ => False
theorem wipe_of_len {σ σ' : L2.St} : ∀ {own : List Nat}, σ'.length = σ.length → (∀ i, i ∉ own → σ'[i]? = σ[i]?) → L2.wipe σ' own = L2.wipe σ own := fun {own} hl h => by
  have get : ∀ (τ : L2.St) (vs : List Nat) (i : Nat), (L2.wipe τ vs)[i]? = if i ∈ vs ∧ i < τ.length then some none else τ[i]? := by
    intro τ vs
    induction vs with
    | nil => intro i; simp [L2.wipe]
    | cons w ws ih =>
      intro i
      show ((L2.wipe τ ws).set w none)[i]? = _
      rw [List.getElem?_set, ih i]
      have hlw : (L2.wipe τ ws).length = τ.length := L2.wipe_length τ ws
      rw [hlw]
      by_cases e : w = i
      · subst e
        by_cases hw : w < τ.length
        · simp [hw]
        · simp [hw]
      · simp [e, List.mem_cons, Ne.symm e]
  apply List.ext_getElem?
  intro i
  rw [get, get, hl]
  by_cases hi : i ∈ own ∧ i < σ.length
  · simp [hi]
  · rw [if_neg hi, if_neg hi]
    by_cases ho : i ∈ own
    · have h1 : ¬ i < σ.length := fun z => hi ⟨ho, z⟩
      rw [List.getElem?_eq_none (by omega), List.getElem?_eq_none (by omega)]
    · exact h i ho
theorem wipe_wipe {σ : L2.St} {own : List Nat} : L2.wipe (L2.wipe σ own) own = L2.wipe σ own := by
  refine wipe_of_len (L2.wipe_length σ own) fun i hi => ?_
  have : ∀ (vs : List Nat), i ∉ vs → (L2.wipe σ vs)[i]? = σ[i]? := by
    intro vs
    induction vs with
    | nil => intro _; rfl
    | cons w ws ih =>
      intro hn
      show ((L2.wipe σ ws).set w none)[i]? = _
      rw [List.getElem?_set_ne (fun e => hn (by rw [e]; exact List.mem_cons_self))]
      exact ih fun z => hn (List.mem_cons_of_mem _ z)
  exact this own hi
theorem e_lc {σ : L2.St} {H : Hp} {Q : VK} (hg : PatOk Γ ps tg g) (hps : ∀ i ∈ ps, i ∈ own) (h : tSm Γ W (sLC own src g test elt) σ H Q) : tLc (tIm Γ W src) tg (tBm Γ W0 test) (tSm Γ W0 elt) own σ H Q := by
  obtain ⟨B, st, F, S, h⟩ := h
  unfold sLC Sm.bind at h
  rw [run_bind] at h
  refine ⟨B, st, F, S, h.mono (fun ds st1 q J H1 B1 F1 p s => ?_) fun _ _ q => q⟩
  rw [run_bind] at q
  intro D hD
  obtain ⟨Fh, Fi, Si, i1, h1, d1, k1⟩ := Sl.wipe p.s own
  have q : RunP (loopLC own g test elt ds [] (G.wipe st1 own)) (fun l st' => ∀ v H' B' G F', PostV Γ B H F σ (.lst l) (back st1 own st') v H' B' G F' → Q v H') fun _ _ => False := by
    have nox_loop : ∀ (ds : List G.D) (acc : List T) (st : G.St) (K : List T → G.St → Prop) (KX KX' : G.X → G.St → Prop), RunP (loopLC own g test elt ds acc st) K KX → RunP (loopLC own g test elt ds acc st) K KX' := by
      intro ds
      induction ds with
      | nil => intro acc st K KX KX' h; exact h
      | cons d r ih =>
        intro acc st K KX KX' h
        unfold loopLC at h ⊢
        cases z : g d st with
        | none => rw [z] at h; exact h
        | some s1 =>
          rw [z] at h
          simp only at h ⊢
          rw [run_bind] at h ⊢
          have h := run_nox' h
          refine RunP.mono h (fun b s2 h => ?_) fun _ _ h => h.elim
          cases b with
          | true =>
            simp only [if_true] at h ⊢
            rw [run_bind] at h ⊢
            have h := run_nox' h
            refine RunP.mono h (fun t s3 h => ?_) fun _ _ h => h.elim
            by_cases hl : acc.length < line
            · rw [if_pos hl] at h ⊢; exact ih _ _ _ _ _ h
            · rw [if_neg hl] at h; exact h.elim
          | false => exact ih _ _ _ _ _ h
    exact nox_loop _ _ _ _ _ _ (q.mono (fun l st' z => z) fun _ _ z => z)
  have sD : Sub H1 (upd H1 D (.lst [])) := Sub.new hD
  have DF : D ∉ Fi := fun z => Si.there D z hD
  let Inv : Nat → Hp → Prop := fun i H' => i ≤ ds.length ∧ Sub B1 H' ∧ ∃ B' st' F' G' vs acc, LcSt (Γ := Γ) own g test elt ds D B1 H1 σ Fi (fun l st' => ∀ v H' B' G F', PostV Γ B H F σ (.lst l) (back st1 own st') v H' B' G F' → Q v H') i H' B' st' F' G' vs acc
  refine ⟨fun i m H' => m = ds.length - i ∧ Inv i H', ⟨ds.length, by simp, Nat.zero_le _, p.s.ex.trans sD, B1, G.wipe st1 own, Fi, [], [], [], ⟨⟨Si.ex.trans sD, Si.sl.at (Sub.refl _) fun a _ o h => sD a o h, Si.nd, Si.fr⟩, upd_same, .nil, ?_, ?_, ?_, q⟩⟩, ?_⟩
  · exact List.nodup_cons.mpr ⟨DF, Si.nd⟩
  · intro a m
    rw [List.mem_singleton.mp m]
    exact Si.ex.none hD
  · refine Upd.refl.comp (upd_newH (B := B1) hD) (fun _ z => nomatch z) fun a m => ?_
    rcases List.mem_cons.mp m with rfl | m
    · exact .inl (List.mem_singleton.mpr rfl)
    · exact .inr m
  · rintro i m H' ⟨rfl, hi, eH, B', st', F', G', vs, acc, L⟩
    by_cases hlt : i < ds.length
    · obtain ⟨d, hd, hdr⟩ := drop_cons hlt
      have sj := (s i H' eH).2 d hd
      refine .inr ⟨sj.1, Inv (i + 1), fun H2 n => ⟨ds.length - (i + 1), by omega, rfl, n⟩, fun x H2 y => ?_⟩
      obtain ⟨B2, u, ex2, rx⟩ := upd_item s L.u.b L.s.ex hd y
      have r := L.r
      rw [hdr] at r
      unfold loopLC at r
      have p1 : PostT Γ B' H' F' [] (L2.wipe σ own) (L2.wipe σ own) st' H2 B2 F' := L.s.grow u ex2
      cases z : g d st' with
      | none => rw [z] at r; exact r.elim
      | some st2 =>
        rw [z] at r
        simp only at r
        rw [run_bind] at r
        refine hg p1.s rx z fun σ2 F2 S2 f l k => ?_
        have ew : L2.wipe σ2 own = L2.wipe σ own := by
          rw [← wipe_wipe (σ := σ)]
          exact wipe_of_len l fun j hj => k j fun z => hj (hps j z)
        refine ⟨ew, B2, st2, F2, S2, (run_nox (KX' := OutX Γ W0 B2 H2 F2 σ2) r).mono (fun b st3 r H3 B3 F3 p3 => ?_) fun _ _ z => z⟩
        -- how far we are from the turn's start
        have p2 : Upd B' H' F' B2 H2 F2 := p1.u.weak f
        have p23 : Upd B' H' F' B3 H3 F3 := p2.trans p3.u
        have ndL := nd_app.mp (show ([D] ++ (G' ++ F')).Nodup from L.nd)
        have ndL2 := nd_app.mp ndL.2.1
        have dD : D ∉ F' := fun z => ndL.2.2 D (List.mem_singleton.mpr rfl) (List.mem_append_right _ z)
        have dDG : D ∉ G' := fun z => ndL.2.2 D (List.mem_singleton.mpr rfl) (List.mem_append_left _ z)
        have tG := L.o.there
        cases b with
        | false =>
          have r : RunP (loopLC own g test elt (ds.drop (i + 1)) acc (G.wipe st3 own)) _ _ := r
          obtain ⟨Fh3, Fi3, S3, i3, h3, d3, k3⟩ := Sl.wipe p3.s own
          rw [ew] at S3
          have ap := p23.apart (G' := D :: G') (fun a m => by
            rcases List.mem_cons.mp m with rfl | m
            · exact dD
            · exact ndL2.2.2 a m) fun a m => by
            rcases List.mem_cons.mp m with rfl | m
            · rw [L.d]; exact fun z => by cases z
            · exact tG a m
          have at3 : At H' H3 (D :: G') := p23.at fun a m => by
            rcases List.mem_cons.mp m with rfl | m
            · exact dD
            · exact ndL2.2.2 a m
          refine ⟨hlt, (L.u.b.trans p23.b).trans p3.s.ex, B3, G.wipe st3 own, Fi3, G', vs, acc, S3, at3.h L.d, L.o.at p23.b at3.t, ?_, ?_, ?_, r⟩
          · refine List.nodup_cons.mpr ⟨fun z => ?_, nd_app.mpr ⟨ndL2.1, S3.nd, fun a m z => ap a (List.mem_cons_of_mem _ m) (i3 a z)⟩⟩
            rcases List.mem_append.mp z with z | z
            · exact dDG z
            · exact ap D List.mem_cons_self (i3 D z)
          · exact p23.frB (fun a m => by
              rcases List.mem_cons.mp m with rfl | m
              · exact dD
              · exact ndL2.2.2 a m) L.fr fun a m => by
              rcases List.mem_cons.mp m with rfl | m
              · rw [L.d]; exact fun z => by cases z
              · exact tG a m
          · refine L.u.comp p23 (fun a m => List.mem_cons_of_mem _ (List.mem_append_right _ m)) fun a m => ?_
            rcases List.mem_cons.mp m with rfl | m
            · exact .inr List.mem_cons_self
            · rcases List.mem_append.mp m with m | m
              · exact .inr (List.mem_cons_of_mem _ (List.mem_append_left _ m))
              · exact .inl (i3 a m)
        | true =>
          have r : RunP ((nox elt st3).bind fun t st4 => if acc.length < line then loopLC own g test elt (ds.drop (i + 1)) (acc ++ [t]) (G.wipe st4 own) else .no) _ _ := r
          rw [run_bind] at r
          show tSm Γ W0 elt σ2 H3 _
          refine ⟨B3, st3, F3, p3.s, (run_nox (KX' := OutX Γ W0 B3 H3 F3 σ2) r).mono (fun t st4 r w H4 B4 G4 F4 p4 => ?_) fun _ _ z => z⟩
          have p24 : Upd B' H' F' B4 H4 (G4 ++ F4) := p23.trans p4.u
          have ap := p24.apart (G' := D :: G') (fun a m => by
            rcases List.mem_cons.mp m with rfl | m
            · exact dD
            · exact ndL2.2.2 a m) fun a m => by
            rcases List.mem_cons.mp m with rfl | m
            · rw [L.d]; exact fun z => by cases z
            · exact tG a m
          have at4 : At H' H4 (D :: G') := p24.at fun a m => by
            rcases List.mem_cons.mp m with rfl | m
            · exact dD
            · exact ndL2.2.2 a m
          have fr4 := p24.frB (G' := D :: G') (fun a m => by
              rcases List.mem_cons.mp m with rfl | m
              · exact dD
              · exact ndL2.2.2 a m) L.fr fun a m => by
              rcases List.mem_cons.mp m with rfl | m
              · rw [L.d]; exact fun z => by cases z
              · exact tG a m
          have hacc : vs.length = acc.length := L.o.len
          by_cases hl : acc.length < line
          · rw [if_pos hl] at r
            refine ⟨vs, at4.h L.d, by rw [hacc]; exact hl, ?_⟩
            obtain ⟨Fh4, Fi4, S4, i4, h4, d4, k4⟩ := Sl.wipe p4.s own
            rw [ew] at S4
            have nd4 := nd_app.mp p4.nd
            have DG4 : D ∉ G4 := fun z => ap D List.mem_cons_self (List.mem_append_left _ z)
            have DF4 : D ∉ F4 := fun z => ap D List.mem_cons_self (List.mem_append_right _ z)
            have up : ∀ (A : List Addr), D ∉ A → At H4 (upd H4 D (.lst (vs ++ [w]))) A := fun A hA a m o h => by
              rw [upd_ne (fun z => hA (by rw [← z]; exact m))]
              exact h
            have bD : B4 D = none := fr4 D List.mem_cons_self
            have app : ∀ {vs : List V} {acc : List T} {G : List Addr}, OwL Γ B4 (upd H4 D (.lst (vs ++ [w]))) vs acc G → True := fun _ => trivial
            have snoc : ∀ {H : Hp} {us : List V} {ts : List T} {G : List Addr}, OwL Γ B4 H us ts G → Ow Γ B4 H w t G4 → OwL Γ B4 H (us ++ [w]) (ts ++ [t]) (G ++ G4) := by
              intro H us
              induction us with
              | nil =>
                intro ts G o1 o2
                cases o1
                have := OwL.cons o2 OwL.nil
                simpa using this
              | cons u us ih =>
                intro ts G o1 o2
                cases o1 with
                | cons o1 o3 =>
                  rw [List.append_assoc]
                  exact .cons o1 (ih o3 o2)
            refine ⟨hlt, ?_, B4, G.wipe st4 own, Fi4, G' ++ G4, vs ++ [w], acc ++ [t], ⟨fun a o h => ?_, S4.sl.at (Sub.refl _) (up _ fun z => DF4 (i4 D z)), S4.nd, S4.fr⟩, upd_same,
              snoc ((L.o.at p24.b at4.t).at (Sub.refl _) (up _ dDG)) (p4.o.at (Sub.refl _) (up _ DG4)), ?_, fun a m => ?_, ?_, r⟩
            · intro a o h
              have h2 := (L.u.b.trans p24.b) a o h
              rw [upd_ne (fun z => by rw [z, bD] at h2; cases h2)]
              exact p4.s.ex a o h2
            · rw [upd_ne (fun z => by rw [z, bD] at h; cases h)]
              exact S4.ex a o h
            · refine List.nodup_cons.mpr ⟨fun z => ?_, ?_⟩
              · simp only [List.mem_append] at z
                rcases z with (z | z) | z
                · exact dDG z
                · exact DG4 z
                · exact DF4 (i4 D z)
              · rw [List.append_assoc]
                refine nd_app.mpr ⟨ndL2.1, nd_app.mpr ⟨nd4.1, S4.nd, fun a m z => nd4.2.2 a m (i4 a z)⟩, fun a m z => ap a (List.mem_cons_of_mem _ m) ?_⟩
                rcases List.mem_append.mp z with z | z
                · exact List.mem_append_left _ z
                · exact List.mem_append_right _ (i4 a z)
            · rcases List.mem_cons.mp m with rfl | m
              · exact bD
              · rcases List.mem_append.mp m with m | m
                · exact fr4 a (List.mem_cons_of_mem _ m)
                · exact p4.fr a m
            · have u5 : Upd B1 H1 Fi B4 H4 (D :: ((G' ++ G4) ++ Fi4)) := L.u.comp p24 (fun a m => List.mem_cons_of_mem _ (List.mem_append_right _ m)) fun a m => by
                simp only [List.mem_cons, List.mem_append] at m ⊢
                rcases m with m | (m | m) | m
                · exact .inr (.inl m)
                · exact .inr (.inr (.inl m))
                · exact .inl (.inl m)
                · exact .inl (.inr (i4 a m))
              have u6 : Upd B4 H4 [D] B4 (upd H4 D (.lst (vs ++ [w]))) [D] := ⟨Sub.refl _, fun a o h n => by rw [upd_ne (fun z => n (by simp [z]))]; exact h, fun a h => by
                by_cases z : a = D
                · rw [z, upd_same]; exact fun y => by cases y
                · rw [upd_ne z]; exact h, fun a m => .inl m, fun a o h => .inl h⟩
              exact u5.comp u6 (fun a m => by rw [List.mem_singleton.mp m]; exact List.mem_cons_self) fun a m => .inr m
          · rw [if_neg hl] at r
            exact r.elim
    · have ei : i = ds.length := by omega
      subst ei
      refine .inl ⟨(s ds.length H' eH).1 (Nat.le_refl _), ?_⟩
      have r := L.r
      rw [List.drop_length] at r
      have r : ∀ v H'' B'' G F'', PostV Γ B H F σ (.lst acc) (back st1 own st') v H'' B'' G F'' → Q v H'' := r
      have ndL := nd_app.mp (show ([D] ++ (G' ++ F')).Nodup from L.nd)
      have ndL2 := nd_app.mp ndL.2.1
      have dF : ∀ a ∈ Fh, a ∉ Fi := d1
      have tF : ∀ a ∈ Fh, H1 a ≠ none := fun a m => p.s.there a (h1 a m)
      have ap := L.u.apart dF tF
      obtain ⟨Fy, sy, ny, zy⟩ := k1 B' H' st' F' L.u.b (L.u.at dF) L.s.sl L.s.nd fun a m z => ap a m (List.mem_cons_of_mem _ (List.mem_append_right _ z))
      have frh := L.u.frB dF (fun a m => p.s.fr a (h1 a m)) tF
      refine r (.ref D) H' B' (D :: G') Fy ⟨⟨L.s.ex, sy, ny, fun a m => (zy a m).elim (frh a) (L.s.fr a)⟩, .lst L.d L.o, ?_, L.fr, ?_⟩
      · refine nd_app.mpr ⟨List.nodup_cons.mpr ⟨fun z => ndL.2.2 D (List.mem_singleton.mpr rfl) (List.mem_append_left _ z), ndL2.1⟩, ny, fun a m z => ?_⟩
        rcases zy a z with z | z
        · refine ap a z ?_
          rcases List.mem_cons.mp m with rfl | m
          · exact List.mem_cons_self
          · exact List.mem_cons_of_mem _ (List.mem_append_left _ m)
        · rcases List.mem_cons.mp m with rfl | m
          · exact ndL.2.2 a (List.mem_singleton.mpr rfl) (List.mem_append_right _ z)
          · exact ndL2.2.2 a m z
      · refine p.u.comp L.u i1 fun a m => ?_
        rcases List.mem_append.mp m with m | m
        · refine .inl ?_
          rcases List.mem_cons.mp m with rfl | m
          · exact List.mem_cons_self
          · exact List.mem_cons_of_mem _ (List.mem_append_left _ m)
        · rcases zy a m with m | m
          · exact .inr (h1 a m)
          · exact .inl (List.mem_cons_of_mem _ (List.mem_append_right _ m))
end
end
end G
set_option Elab.async false
set_option linter.all false
set_option maxRecDepth 100000
set_option maxHeartbeats 2000000
/-! list(reversed(a list)) -/
namespace GR
open PySem PySem.W PySem.Calls PyProof.Rows PyProof.V PySem.Spec L2 RT
section
variable {prog : Program} {w : World} {A : Around} {s : Shared} {E : Value → Shared → Prop}
theorem extend_rev {R : Result → Shared → Prop} {it l : Addr} {items : Array Value} (hh : A.handled = none) (hit : s.heap.IsRevIter it l ((items.size : Int) - 1)) (hl : s.heap.IsList l items) (hne : l ≠ it) (hn : items.size ≤ sizeLine)
    (S : Addr) (res : Value) (c0 : Nat) (hSi : S ≠ it) (hSl : S ≠ l) (hS : s.heap.get? S = some { cls := .type "list", data := .seq #[] c0 })
    (hR : ∀ h' tk acc c', (∀ b o, b ≠ S → b ≠ it → s.heap.get? b = some o → h'.get? b = some o) → h'.get? S = some { cls := .type "list", dict := none, data := .seq acc c', slots := #[] } →
      ItemsOf (fun i v => items[items.size - 1 - i]? = some v) acc items.size → R (.ok (.ret res)) { s with heap := h', toks := tk }) :
    wpAny (model prog w) A.in1 (Builtin.List.listExtendWith (.ref S) (.ref it) res)
      (fun fin s' => match fin with | .done f => R (.ok f) s' | .again c' => c'.quiet = true ∧ codeAny (model prog w) A c' R s') (fun e s' => R (.error e) s') s := by
  have W := (Walks.listRev (prog := prog) (w := w) (A := A.in1) hh it l hne items).toS
  have hSf : S ∉ [it, l] := by simp only [List.mem_cons, List.not_mem_nil, or_false, not_or]; exact ⟨hSi, hSl⟩
  have hT : s.TypeIs (.ref it) "list_reverseiterator" := hit.typeIs
  have h1 : Builtin.List.listSameRef (.ref S) (.ref it) = false := by simp [Builtin.List.listSameRef, hSi]
  unfold Builtin.List.listExtendWith
  refine wpAny_bind (wpAny_typeOf hT ?_)
  rw [if_neg (by rw [h1]; decide)]
  refine wpAny_bind (wpAny_pyIter_revIter hit ?_)
  refine wpAny_bind (wpAny_holding ?_)
  unfold Builtin.List.listLengthHint
  refine wpAny_bind (wpAny_specialOf hT nolen_lri ?_)
  show wpAny _ A.in1 (specialOf (Value.ref it) (Str.ofString "__length_hint__") >>= _) _ _ _
  refine wpAny_bind (wpAny_specialOf hT hint_lri ?_)
  generalize hid : ("list_reverseiterator.__length_hint__" : String) = id0
  wp_delta
  rw [show splitId id0 = some ("list_reverseiterator", "__length_hint__") from by subst hid; decide +kernel]
  subst hid
  refine wpAny_bind (wpAny_isInstance (b := true) hT (by rw [isSubtype_type]; kernel_rfl) ?_)
  refine wpAny_pure ?_
  rw [if_neg (by decide)]
  have e0 : ((items.size : Nat) : Int) - 1 - ((0 : Nat) : Int) = (items.size : Int) - 1 := by omega
  refine wpAny_pure ⟨plainId_quiet F.plain_extend_loop _, codeAny_extend_loopS W hn _ hSf _ items.size 0 _ _ _ rfl (Nat.zero_le _) ⟨Nat.zero_le _, by rw [e0]; exact hit, hl⟩ hS (ItemsOf.nil _) fun s' acc' c' hm hS' hacc => ?_⟩
  rw [Moved.eq_with hm]
  refine hR s'.heap s'.toks acc' c' (fun b o hb hb2 e => hm.heap b o (fun hmem => ?_) e) hS' hacc
  rcases List.mem_cons.mp hmem with e' | hmem
  · exact hb e'
  · exact hb2 (List.mem_singleton.mp hmem)
theorem init_rev {R : Result → Shared → Prop} {it l : Addr} {items : Array Value} (hh : A.handled = none) (hit : s.heap.IsRevIter it l ((items.size : Int) - 1)) (hl : s.heap.IsList l items) (hne : l ≠ it) (hn : items.size ≤ sizeLine)
    (S : Addr) (hSi : S ≠ it) (hSl : S ≠ l) (hS : s.heap.get? S = some { cls := .type "list", data := .seq #[] })
    (hR : ∀ h' tk acc c', (∀ b o, b ≠ S → b ≠ it → s.heap.get? b = some o → h'.get? b = some o) → h'.get? S = some { cls := .type "list", dict := none, data := .seq acc c', slots := #[] } →
      ItemsOf (fun i v => items[items.size - 1 - i]? = some v) acc items.size → R (.ok (.ret .none)) { s with heap := h', toks := tk }) :
    wpAny (model prog w) A.in1 (Builtin.«list.__init__» ⟨[.ref S, .ref it], []⟩)
      (fun fin s' => match fin with | .done f => R (.ok f) s' | .again c' => c'.quiet = true ∧ codeAny (model prog w) A c' R s') (fun e s' => R (.error e) s') s := by
  show wpAny _ _ (do let old ← Builtin.List.listItems (.ref S); Builtin.List.listUpdate (.ref S) (fun _ => #[]); letGo old.toList.reverse; Builtin.List.listExtendWith (.ref S) (.ref it) .none) _ _ s
  refine wpAny_bind ?_
  unfold Builtin.List.listItems
  refine wpAny_bind (wpAny_seqItems hS rfl (wpAny_pure ?_))
  show wpAny _ _ (updateSeq S (fun _ => #[]) >>= fun _ => letGo (#[] : Array Value).toList.reverse >>= fun _ => Builtin.List.listExtendWith (.ref S) (.ref it) .none) _ _ s
  refine wpAny_bind (wpAny_updateSeq hS rfl ?_)
  have hS2 := Heap.get?_update_self (Obj.mapSeq (fun _ => (#[] : Array Value))) hS rfl
  have oth : ∀ b o, b ≠ S → s.heap.get? b = some o → (s.heap.update S (Obj.mapSeq (fun _ => (#[] : Array Value)))).get? b = some o :=
    fun b o hb e => (Heap.get?_update_other _ _ (Ne.symm hb)).trans e
  refine wpAny_bind (wpAny_letGo ?_)
  have hit2 : (s.heap.update S (Obj.mapSeq (fun _ => (#[] : Array Value)))).IsRevIter it l ((items.size : Int) - 1) := hit.at fun o e => oth it o (Ne.symm hSi) e
  have hl2 : (s.heap.update S (Obj.mapSeq (fun _ => (#[] : Array Value)))).IsList l items := by
    obtain ⟨o, ho, r⟩ := hl
    exact ⟨o, oth l o (Ne.symm hSl) ho, r⟩
  refine extend_rev hh hit2 hl2 hne hn S .none _ hSi hSl hS2 fun h' tk acc' c' hk hS' hacc => ?_
  exact hR h' tk acc' c' (fun b o hb hb2 e => hk b o hb hb2 (oth b o hb e)) hS' hacc
theorem call_list_rev {it l : Addr} {items : Array Value} {Q : Value → Shared → Prop} (hh : A.handled = none) (hit : s.heap.IsRevIter it l ((items.size : Int) - 1)) (hl : s.heap.IsList l items) (hne : l ≠ it) (hn : items.size ≤ sizeLine)
    (hQ : ∀ (h' : Heap) (tk : Nat) (acc : Array Value) (c' : Nat), (∀ b o, b ≠ it → s.heap.get? b = some o → h'.get? b = some o) → h'.get? s.heap.objs.size = some { cls := .type "list", dict := none, data := .seq acc c', slots := #[] } →
      ItemsOf (fun i v => items[items.size - 1 - i]? = some v) acc items.size → Q (.ref s.heap.objs.size) { s with heap := h', toks := tk }) :
    wpAny (model prog w) A (call (.type "list") [.ref it]) Q E s := by
  obtain ⟨oi, hoi, _⟩ := id hit
  obtain ⟨ol, hol, _⟩ := id hl
  refine callType_codes (Q₁ := fun obj s₁ => obj = .ref s.heap.objs.size ∧ s₁ = { s with heap := s.heap.push { cls := .type "list", data := .seq #[] } }) F.called_list (F.typeCall_list_1 _) F.entry_list_init
    (code_list_new _ ⟨rfl, rfl⟩) fun obj s₁ h₁ => ?_
  obtain ⟨rfl, rfl⟩ := h₁
  have hS : (s.heap.push { cls := .type "list", data := .seq #[] }).get? s.heap.objs.size = some { cls := .type "list", data := .seq #[] } := Heap.get?_push_size _ rfl
  have hit1 : (s.heap.push { cls := .type "list", data := .seq #[] }).IsRevIter it l ((items.size : Int) - 1) := hit.at fun o e => Heap.get?_push_of_some _ e
  refine ⟨⟨_, hS, rfl⟩, F.args_list_init_2 _ _, init_rev (A := A.in1) hh hit1 (hl.push _) hne hn _ (Nat.ne_of_gt (Heap.lt_size hoi)) (Nat.ne_of_gt (Heap.lt_size hol)) hS fun h' tk acc c' hk hS' hacc => ?_⟩
  exact ⟨rfl, hQ h' tk acc c' (fun b o hb e => hk b o (Nat.ne_of_lt (Heap.lt_size e)) hb (Heap.get?_push_of_some _ e)) hS' hacc⟩
end
/-- list(reversed(x)), x a list: a new list -/
def tListRev (K : PySem.W.Frag) (te : TE) : TE := fun σ H Q => te σ H fun v H1 => ∃ (a : Addr) (xs : List V), v = .ref a ∧ SqL K H1 a xs ∧ ∀ q, H1 q = none → Q (.ref q) (upd H1 q (.lst xs.reverse))
section
variable {X : Cx}
theorem pe_listRev {e : Expr} {te : TE} {p p2 pos pos2 : Pos} (hc : X.calm = true) (hg : Gl X "list") (hm : X.mg "list" = none) (hg2 : Gl X "reversed") (hm2 : X.mg "reversed" = none) (he : PE X e te)
    (hs : starEach [e] X.env = (false, eval e X.env) :: starEach [] X.env := by rfl)
    (hs2 : starEach [.Call (.Name "reversed" p2) [e] [] pos2] X.env = (false, eval (.Call (.Name "reversed" p2) [e] [] pos2) X.env) :: starEach [] X.env := by rfl) :
    PE X (.Call (.Name "list" p) [.Call (.Name "reversed" p2) [e] [] pos2] [] pos) (tListRev X.K te) := by
  refine ⟨fun pins s σ H Q I h => ?_⟩
  refine Call_ (ld_blt I hg hm (u := Value.type "list") (by decide +kernel) (PyProof.Rows.callWith_type1 (args_cons (Call_ (ld_blt I hg2 hm2 PyProof.Rows.boot_reversed (PyProof.Rows.callWith_type1 (args_cons (thn (he.run pins s σ H _ I h) fun u s1 ⟨v, H1, I1, r1, q1⟩ => args_nil ?_) hs) hs rfl))) hs2) hs2 rfl))
  obtain ⟨a, xs, ev, hq, q⟩ := q1
  subst ev
  obtain rfl : u = Value.ref a := r1
  obtain ⟨its, rv, p', hz⟩ := I1.list hq
  refine call_reversed_list p'.isList (args_nil ?_)
  have k0 : ∀ b o, s1.heap.get? b = some o → (s1.heap.push (revObj a ((its.toArray.size : Int) - 1))).get? b = some o := fun b o e => Heap.get?_push_of_some _ e
  have I2 : Inv X pins σ H1 { s1 with heap := s1.heap.push (revObj a ((its.toArray.size : Int) - 1)) } := I1.kept (t' := s1.toks) k0
  obtain ⟨f0, f1, f2, f3, f4, f5⟩ := I1.fpOk (H' := H1) (b := s1.heap.objs.size) (Nat.le_refl _) (I1.hok.fresh (Nat.le_refl _))
  have hl := p'.isList
  obtain ⟨ol, hol, _⟩ := id hl
  have hne : a ≠ s1.heap.objs.size := Nat.ne_of_lt (Heap.lt_size hol)
  have hn : its.toArray.size ≤ sizeLine := by rw [List.size_toArray, ← rv.length]; exact hz
  have I2f : H1 (s1.heap.push (revObj a ((its.toArray.size : Int) - 1))).objs.size = none := I2.hok.fresh (Nat.le_refl _)
  refine call_list_rev (s := { s1 with heap := s1.heap.push (revObj a ((its.toArray.size : Int) - 1)) }) (I1.ok.hd hc) ⟨_, Heap.get?_push_size _ rfl, rfl, rfl⟩ (hl.push _) hne hn fun h' tk acc c' hk hS hi => ?_
  have hit0 : H1 s1.heap.objs.size = none := I1.hok.fresh (Nat.le_refl _)
  generalize hL : (s1.heap.push (revObj a ((its.toArray.size : Int) - 1))).objs.size = L at *
  have old : ∀ b o, (s1.heap.push (revObj a ((its.toArray.size : Int) - 1))).get? b = some o → b ≠ L := fun b o e => Nat.ne_of_lt (hL ▸ Heap.lt_size e)
  refine ⟨.ref L, upd H1 L (.lst xs.reverse), ?_, rfl, q _ I2f⟩
  refine Inv.step (X := X) (ch := [s1.heap.objs.size]) (g' := s1.gens) (t' := tk) (d' := s1.drawn) (h' := h') (H' := upd H1 L (.lst xs.reverse)) I2 (fun b hb => ?_) (fun b o _ _ hc e _ => hk b o (fun z => hc (by simp [z])) e) (fun b o _ _ hc e _ => ⟨o.slots, hk b o (fun z => hc (by simp [z])) e⟩) (fun b o _ e n => by rw [upd_ne (old b o e)]; exact n)
    (fun b o hc e => ⟨o, hk b o (fun z => hc (by simp [z])) e⟩) (fun b ys e => by rw [upd_ne (ne_of_none e I2f)]; exact e) (fun b o u e => by rw [upd_ne (ne_of_none e I2f)]; exact e) (fun b ps e => ⟨#[], by rw [upd_ne (ne_of_none e I2f), e]; simp⟩) (fun m hm => ?_) (fun b u e => ?_) I2.bare
  · have e : b = s1.heap.objs.size := by simpa using hb
    subst e
    exact ⟨f3, f1, f4, f5⟩
  · obtain ⟨o, es, ep, ho, r⟩ := hm
    exact ⟨o, es, ep, hk _ o (Ne.symm f1) ho, r⟩
  · by_cases hb : b = L
    · subst hb
      rw [upd_same] at e
      cases e
      exact ⟨by rw [List.length_reverse]; exact hz, acc.toList, c', vals_rev rv hi, by rw [Array.toArray_toList]; exact hS⟩
    · rw [upd_ne hb] at e
      refine (I2.hok b u e).stay (fun c v hc q => hk c v (fun z => ?_) q) (fun c q => by rw [upd_ne (ne_of_none q I2f)]; exact q) fun c ys q => by rw [upd_ne (ne_of_none q I2f)]; exact q
      rcases hc with r | r
      · rw [← r, z, hit0] at e; cases e
      · rw [z, hit0] at r; cases r
end
end GR
set_option Elab.async false
set_option linter.all false
set_option maxRecDepth 100000
set_option maxHeartbeats 2000000
/-! list(reversed(a tuple)) -/
namespace GT
open PySem PySem.W PySem.Calls PyProof.Rows PyProof.V PySem.Spec L2 RT
theorem nolen_rt : typeLookup (.type "reversed") "__len__" = pure none := by rw [typeLookup_type, builtinLookup_eq_fast]; kernel_rfl
theorem slot_rt_hint : Slot "reversed" "__length_hint__" "reversed.__length_hint__" :=
  .of (owner := "reversed") (n := "__length_hint__") (by rw [typeLookup_type, builtinLookup_eq_fast]; kernel_rfl) (by decide +kernel) (by decide +kernel) (by decide +kernel)
    (by first | exact .inl (by decide +kernel) | exact .inr (by decide +kernel)) (by rw [isSubtype_type]; kernel_rfl)
theorem entry_rt_hint : entryFor table "reversed.__length_hint__" = some Builtin.«reversed.__length_hint__» := entryFor_of_tree (by kernel_rfl)
theorem args_rt_hint (a : Value) : argsOk "reversed.__length_hint__" ⟨[a], []⟩ := by
  unfold argsOk; rw [signature?_of (id := "reversed.__length_hint__") (n := "__tnih_htgnel__".toList) (o := ['d', 'e', 's', 'r', 'e', 'v', 'e', 'r']) (by kernel_rfl) owner_rt]; kernel_rfl
section
variable {prog : Program} {w : World} {A : Around} {s : Shared} {E : Value → Shared → Prop}
theorem walks_rt (hh : A.handled = none) (I t : Addr) (hne : t ≠ I) (items : Array Value) (hsz : items.size ≤ sizeLine) :
    Walks prog w A I [I, t] [I] items.size (fun i v => items[items.size - 1 - i]? = some v) (fun i h => i ≤ items.size ∧ IsRt h I t ((items.size : Int) - 1 - (i : Int)) ∧ IsTup h t items) where
  sub := fun b hb => by simp at hb; simp [hb]
  frame := fun _ _ _ x hk => ⟨x.1, x.2.1.at fun o e => hk I (by simp) o e, let ⟨o, ho, r⟩ := x.2.2; ⟨o, hk t (by simp) o ho, r⟩⟩
  item := fun i s Q E hi x hQ => by
    have e : (items.size : Int) - 1 - (i : Int) = ((items.size - 1 - i : Nat) : Int) := by omega
    have hit := x.2.1
    rw [e] at hit
    have hx : items[items.size - 1 - i]? = some (items[items.size - 1 - i]'(by omega)) := Array.getElem?_eq_getElem (by omega)
    refine next_rt_item hit x.2.2 hx hsz fun h' hit' hs' => ?_
    have e2 : ((items.size - 1 - i : Nat) : Int) - 1 = (items.size : Int) - 1 - ((i + 1 : Nat) : Int) := by omega
    rw [e2] at hit'
    exact hQ _ h' (s.toks + 1) hx ⟨hi, hit', let ⟨o, ho, r⟩ := x.2.2; ⟨o, (hs'.2 t hne).trans ho, r⟩⟩ fun b o hb eo => hs'.extBut b o (fun h => hb (by simp [h])) eo
  done := fun s Q E x hQ => by
    have e : (items.size : Int) - 1 - (items.size : Int) = -1 := by omega
    have hit := x.2.1
    rw [e] at hit
    exact next_rt_end hh hit fun h' hk => hQ h' s.toks fun b o hb eo => hk b o (fun h => hb (by simp [h])) eo
  self := fun i s Q E x hQ => by
    exact iter_rt x.2.1 hQ
end
end GT
namespace GT
open PySem PySem.W PySem.Calls PyProof.Rows PyProof.V PySem.Spec L2 RT
section
variable {prog : Program} {w : World} {A : Around} {s : Shared} {E : Value → Shared → Prop}
theorem call_hint {it t : Addr} {items : Array Value} {Q : Value → Shared → Prop} (hit : IsRt s.heap it t ((items.size : Int) - 1)) (ht : IsTup s.heap t items) (hsz : items.size ≤ sizeLine)
    (hQ : ∀ tk k, s.toks ≤ tk → Q (.int items.size k) { s with toks := tk }) : wpAny (model prog w) A (call (.builtin "reversed.__length_hint__") [.ref it]) Q E s := by
  obtain ⟨o, ho, hc, hd⟩ := id hit
  refine wpAny_call_entry slot_rt_hint hit.typeIs entry_rt_hint ?_ (args_rt_hint _)
  unfold Builtin.«reversed.__length_hint__»
  refine wpAny_bind (wpAny_of_eq (a := (Value.ref it)) rfl ?_)
  try dsimp only
  refine wpAny_bind (wpAny_field ho hd (x := .ref t) rfl ?_)
  rw [if_neg (by simp)]
  rw [sizeLine_eq] at hsz
  refine wpAny_bind (len_tuple ht (by omega) ?_)
  refine wpAny_bind (wpAny_of_eq (a := some ((items.size : Nat) : Int)) rfl ?_)
  try dsimp only
  refine wpAny_bind (wpAny_field (s := { s with toks := s.toks + 1 + 1 }) ho hd (x := rawInt ((items.size : Int) - 1)) rfl ?_)
  show wpAny _ _ (if (items.size : Int) < (items.size : Int) - 1 + 1 then _ else _) _ _ _
  rw [if_neg (by omega)]
  unfold retInt
  refine wpAny_bind (wpAny_mkInt ?_)
  have e : (items.size : Int) - 1 + 1 = items.size := by omega
  rw [e]
  exact wpAny_pure ⟨_, rfl, hQ _ _ (by show s.toks ≤ s.toks + 1 + 1 + 1; omega)⟩
theorem hint_rt {it t : Addr} {items : Array Value} {Q : Bool → Shared → Prop} (hit : IsRt s.heap it t ((items.size : Int) - 1)) (ht : IsTup s.heap t items) (hsz : items.size ≤ sizeLine)
    (hQ : ∀ b tk, Q b { s with toks := tk }) : wpAny (model prog w) A (Builtin.List.listLengthHint (.ref it)) Q E s := by
  have hT := hit.typeIs
  unfold Builtin.List.listLengthHint
  refine wpAny_bind (wpAny_specialOf hT nolen_rt ?_)
  show wpAny _ A (specialOf (Value.ref it) (Str.ofString "__length_hint__") >>= _) _ _ _
  refine wpAny_bind (wpAny_specialOf hT slot_rt_hint.lookup ?_)
  generalize hid : ("reversed.__length_hint__" : String) = id0
  wp_delta
  rw [show splitId id0 = some ("reversed", "__length_hint__") from by subst hid; decide +kernel]
  refine wpAny_bind (wpAny_isInstance (b := true) hT (by rw [isSubtype_type]; kernel_rfl) ?_)
  rw [if_neg (by decide)]
  try dsimp only
  subst hid
  rw [if_neg (by decide +kernel)]
  refine wpAny_bind (wpAny_rule ?_)
  rw [slot_rt_hint.bind]
  refine wpAny_bind (wpAny_pure ?_)
  try dsimp only
  refine wpAny_bind (wpAny_attempt (call_hint hit ht hsz fun tk k _ => ?_))
  show wpAny _ _ (asInt? (Value.int items.size k) >>= _) _ _ _
  have ei : asInt? (Value.int ((items.size : Nat) : Int) k) = pure (some ((items.size : Nat) : Int)) := rfl
  refine wpAny_bind ?_
  rw [ei]
  refine wpAny_pure ?_
  try dsimp only
  rw [sizeLine_eq] at hsz
  have f1 : Builtin.List.listFitsIndex ((items.size : Nat) : Int) = true := by
    unfold Builtin.List.listFitsIndex
    rw [Bool.and_eq_true]
    exact ⟨decide_eq_true (by omega), decide_eq_true (by omega)⟩
  have f2 : Builtin.List.listTooLong (((items.size : Nat) : Int)).toNat = false := by
    unfold Builtin.List.listTooLong
    rw [sizeLine_eq]
    exact decide_eq_false (by omega)
  rw [f1, f2, if_neg (by decide), if_neg (by omega), if_neg (by decide)]
  exact wpAny_pure (hQ _ _)
end
end GT
namespace GT
open PySem PySem.W PySem.Calls PyProof.Rows PyProof.V PySem.Spec L2 RT
section
variable {prog : Program} {w : World} {A : Around} {s : Shared} {E : Value → Shared → Prop}
theorem tup_at {h h' : Heap} {t : Addr} {items : Array Value} (x : IsTup h t items) (e : ∀ o, h.get? t = some o → h'.get? t = some o) : IsTup h' t items := let ⟨o, ho, r⟩ := x; ⟨o, e o ho, r⟩
theorem ext_loop {R : Result → Shared → Prop} {it l : Addr} {items : Array Value} (hh : A.handled = none) (hit : IsRt s.heap it l ((items.size : Int) - 1)) (hl : IsTup s.heap l items) (hne : l ≠ it) (hn : items.size ≤ sizeLine)
    (S : Addr) (res : Value) (c0 : Nat) (hSi : S ≠ it) (hSl : S ≠ l) (hS : s.heap.get? S = some { cls := .type "list", data := .seq #[] c0 })
    (hR : ∀ h' tk acc c', (∀ b o, b ≠ S → b ≠ it → s.heap.get? b = some o → h'.get? b = some o) → h'.get? S = some { cls := .type "list", dict := none, data := .seq acc c', slots := #[] } →
      ItemsOf (fun i v => items[items.size - 1 - i]? = some v) acc items.size → R (.ok (.ret res)) { s with heap := h', toks := tk }) :
    wpAny (model prog w) A.in1 (again (.builtin "list.extend.loop" ⟨[.ref S, .ref it, res], []⟩))
      (fun fin s' => match fin with | .done f => R (.ok f) s' | .again c' => c'.quiet = true ∧ codeAny (model prog w) A c' R s') (fun e s' => R (.error e) s') s := by
  have W := (walks_rt (prog := prog) (w := w) (A := A.in1) hh it l hne items hn).toS
  have hSf : S ∉ [it, l] := by simp only [List.mem_cons, List.not_mem_nil, or_false, not_or]; exact ⟨hSi, hSl⟩
  have e0 : ((items.size : Nat) : Int) - 1 - ((0 : Nat) : Int) = (items.size : Int) - 1 := by omega
  refine wpAny_pure ⟨plainId_quiet F.plain_extend_loop _, codeAny_extend_loopS W hn _ hSf _ items.size 0 _ _ _ rfl (Nat.zero_le _) ⟨Nat.zero_le _, by rw [e0]; exact hit, hl⟩ hS (ItemsOf.nil _) fun s' acc' c' hm hS' hacc => ?_⟩
  rw [Moved.eq_with hm]
  refine hR s'.heap s'.toks acc' c' (fun b o hb hb2 e => hm.heap b o (fun hmem => ?_) e) hS' hacc
  rcases List.mem_cons.mp hmem with e' | hmem
  · exact hb e'
  · exact hb2 (List.mem_singleton.mp hmem)
theorem extend_rt {R : Result → Shared → Prop} {it l : Addr} {items : Array Value} (hh : A.handled = none) (hit : IsRt s.heap it l ((items.size : Int) - 1)) (hl : IsTup s.heap l items) (hne : l ≠ it) (hn : items.size ≤ sizeLine)
    (S : Addr) (res : Value) (c0 : Nat) (hSi : S ≠ it) (hSl : S ≠ l) (hS : s.heap.get? S = some { cls := .type "list", data := .seq #[] c0 })
    (hR : ∀ h' tk acc c', (∀ b o, b ≠ S → b ≠ it → s.heap.get? b = some o → h'.get? b = some o) → h'.get? S = some { cls := .type "list", dict := none, data := .seq acc c', slots := #[] } →
      ItemsOf (fun i v => items[items.size - 1 - i]? = some v) acc items.size → R (.ok (.ret res)) { s with heap := h', toks := tk }) :
    wpAny (model prog w) A.in1 (Builtin.List.listExtendWith (.ref S) (.ref it) res)
      (fun fin s' => match fin with | .done f => R (.ok f) s' | .again c' => c'.quiet = true ∧ codeAny (model prog w) A c' R s') (fun e s' => R (.error e) s') s := by
  have hT : s.TypeIs (.ref it) "reversed" := hit.typeIs
  have h1 : Builtin.List.listSameRef (.ref S) (.ref it) = false := by simp [Builtin.List.listSameRef, hSi]
  unfold Builtin.List.listExtendWith
  refine wpAny_bind (wpAny_typeOf hT ?_)
  rw [if_neg (by rw [h1]; decide)]
  refine wpAny_bind (iter_rt hit ?_)
  refine wpAny_bind (wpAny_holding ?_)
  refine hint_rt hit hl hn fun b tk => ?_
  cases b with
  | false =>
    rw [if_neg (by decide)]
    exact ext_loop (s := { s with toks := tk }) hh hit hl hne hn S res c0 hSi hSl hS hR
  | true =>
    rw [if_pos (by decide)]
    refine wpAny_bind (wpAny_rule ?_)
    refine wpAny_bind ?_
    unfold Builtin.List.listTouch
    refine wpAny_bind ?_
    show wpAny _ _ (updateSeq S (fun x => x.push .none)) _ _ _
    refine wpAny_updateSeq (s := { s with toks := tk }) hS rfl ?_
    have hS1 := Heap.get?_update_self (Obj.mapSeq (fun x : Array Value => x.push .none)) hS rfl
    show wpAny _ _ (updateSeq S (fun x => x.pop)) _ _ _
    refine wpAny_updateSeq (s := { s with toks := tk, heap := s.heap.update S (Obj.mapSeq (fun x : Array Value => x.push .none)) }) hS1 rfl ?_
    have hS2 := Heap.get?_update_self (Obj.mapSeq (fun x : Array Value => x.pop)) hS1 rfl
    have oth : ∀ b o, b ≠ S → s.heap.get? b = some o → ((s.heap.update S (Obj.mapSeq (fun x : Array Value => x.push .none))).update S (Obj.mapSeq (fun x : Array Value => x.pop))).get? b = some o :=
      fun b o hb e => (Heap.get?_update_other _ _ (Ne.symm hb)).trans ((Heap.get?_update_other _ _ (Ne.symm hb)).trans e)
    refine ext_loop (s := { s with toks := tk, heap := (s.heap.update S (Obj.mapSeq (fun x : Array Value => x.push .none))).update S (Obj.mapSeq (fun x : Array Value => x.pop)) }) hh (hit.at fun o e => oth it o (Ne.symm hSi) e) (tup_at hl fun o e => oth l o (Ne.symm hSl) e) hne hn S res _ hSi hSl hS2 fun h' tk acc c' hk hS' hacc => ?_
    exact hR h' tk acc c' (fun b o hb hb2 e => hk b o hb hb2 (oth b o hb e)) hS' hacc
theorem init_rt {R : Result → Shared → Prop} {it l : Addr} {items : Array Value} (hh : A.handled = none) (hit : IsRt s.heap it l ((items.size : Int) - 1)) (hl : IsTup s.heap l items) (hne : l ≠ it) (hn : items.size ≤ sizeLine)
    (S : Addr) (hSi : S ≠ it) (hSl : S ≠ l) (hS : s.heap.get? S = some { cls := .type "list", data := .seq #[] })
    (hR : ∀ h' tk acc c', (∀ b o, b ≠ S → b ≠ it → s.heap.get? b = some o → h'.get? b = some o) → h'.get? S = some { cls := .type "list", dict := none, data := .seq acc c', slots := #[] } →
      ItemsOf (fun i v => items[items.size - 1 - i]? = some v) acc items.size → R (.ok (.ret .none)) { s with heap := h', toks := tk }) :
    wpAny (model prog w) A.in1 (Builtin.«list.__init__» ⟨[.ref S, .ref it], []⟩)
      (fun fin s' => match fin with | .done f => R (.ok f) s' | .again c' => c'.quiet = true ∧ codeAny (model prog w) A c' R s') (fun e s' => R (.error e) s') s := by
  show wpAny _ _ (do let old ← Builtin.List.listItems (.ref S); Builtin.List.listUpdate (.ref S) (fun _ => #[]); letGo old.toList.reverse; Builtin.List.listExtendWith (.ref S) (.ref it) .none) _ _ s
  refine wpAny_bind ?_
  unfold Builtin.List.listItems
  refine wpAny_bind (wpAny_seqItems hS rfl (wpAny_pure ?_))
  show wpAny _ _ (updateSeq S (fun _ => #[]) >>= fun _ => letGo (#[] : Array Value).toList.reverse >>= fun _ => Builtin.List.listExtendWith (.ref S) (.ref it) .none) _ _ s
  refine wpAny_bind (wpAny_updateSeq hS rfl ?_)
  have hS2 := Heap.get?_update_self (Obj.mapSeq (fun _ => (#[] : Array Value))) hS rfl
  have oth : ∀ b o, b ≠ S → s.heap.get? b = some o → (s.heap.update S (Obj.mapSeq (fun _ => (#[] : Array Value)))).get? b = some o :=
    fun b o hb e => (Heap.get?_update_other _ _ (Ne.symm hb)).trans e
  refine wpAny_bind (wpAny_letGo ?_)
  refine extend_rt hh (hit.at fun o e => oth it o (Ne.symm hSi) e) (tup_at hl fun o e => oth l o (Ne.symm hSl) e) hne hn S .none _ hSi hSl hS2 fun h' tk acc' c' hk hS' hacc => ?_
  exact hR h' tk acc' c' (fun b o hb hb2 e => hk b o hb hb2 (oth b o hb e)) hS' hacc
theorem call_list_rt {it l : Addr} {items : Array Value} {Q : Value → Shared → Prop} (hh : A.handled = none) (hit : IsRt s.heap it l ((items.size : Int) - 1)) (hl : IsTup s.heap l items) (hne : l ≠ it) (hn : items.size ≤ sizeLine)
    (hQ : ∀ (h' : Heap) (tk : Nat) (acc : Array Value) (c' : Nat), (∀ b o, b ≠ it → s.heap.get? b = some o → h'.get? b = some o) → h'.get? s.heap.objs.size = some { cls := .type "list", dict := none, data := .seq acc c', slots := #[] } →
      ItemsOf (fun i v => items[items.size - 1 - i]? = some v) acc items.size → Q (.ref s.heap.objs.size) { s with heap := h', toks := tk }) :
    wpAny (model prog w) A (call (.type "list") [.ref it]) Q E s := by
  obtain ⟨oi, hoi, _⟩ := id hit
  obtain ⟨ol, hol, _⟩ := id hl
  refine callType_codes (Q₁ := fun obj s₁ => obj = .ref s.heap.objs.size ∧ s₁ = { s with heap := s.heap.push { cls := .type "list", data := .seq #[] } }) F.called_list (F.typeCall_list_1 _) F.entry_list_init
    (code_list_new _ ⟨rfl, rfl⟩) fun obj s₁ h₁ => ?_
  obtain ⟨rfl, rfl⟩ := h₁
  have hS : (s.heap.push { cls := .type "list", data := .seq #[] }).get? s.heap.objs.size = some { cls := .type "list", data := .seq #[] } := Heap.get?_push_size _ rfl
  refine ⟨⟨_, hS, rfl⟩, F.args_list_init_2 _ _, init_rt (A := A.in1) hh (hit.at fun o e => Heap.get?_push_of_some _ e) (tup_at hl fun o e => Heap.get?_push_of_some _ e) hne hn _ (Nat.ne_of_gt (Heap.lt_size hoi)) (Nat.ne_of_gt (Heap.lt_size hol)) hS fun h' tk acc c' hk hS' hacc => ?_⟩
  exact ⟨rfl, hQ h' tk acc c' (fun b o hb e => hk b o (Nat.ne_of_lt (Heap.lt_size e)) hb (Heap.get?_push_of_some _ e)) hS' hacc⟩
end
end GT
namespace GT
open PySem PySem.W PySem.Calls PyProof.Rows PyProof.V PySem.Spec L2 RT GR
/-- list(reversed(x)), x a list or a tuple: a new list -/
def tListRevA (K : PySem.W.Frag) (te : TE) : TE := fun σ H Q => te σ H fun v H1 => ∃ (a : Addr) (xs : List V), v = .ref a ∧ (SqL K H1 a xs ∨ SqT K H1 a xs) ∧ ∀ q, H1 q = none → Q (.ref q) (upd H1 q (.lst xs.reverse))
section
variable {X : Cx}
theorem pe_listRevA {e : Expr} {te : TE} {p p2 pos pos2 : Pos} (hc : X.calm = true) (hg : Gl X "list") (hm : X.mg "list" = none) (hg2 : Gl X "reversed") (hm2 : X.mg "reversed" = none) (he : PE X e te)
    (hs : starEach [e] X.env = (false, eval e X.env) :: starEach [] X.env := by rfl)
    (hs2 : starEach [.Call (.Name "reversed" p2) [e] [] pos2] X.env = (false, eval (.Call (.Name "reversed" p2) [e] [] pos2) X.env) :: starEach [] X.env := by rfl) :
    PE X (.Call (.Name "list" p) [.Call (.Name "reversed" p2) [e] [] pos2] [] pos) (tListRevA X.K te) := by
  refine ⟨fun pins s σ H Q I h => ?_⟩
  refine Call_ (ld_blt I hg hm (u := Value.type "list") (by decide +kernel) (PyProof.Rows.callWith_type1 (args_cons (Call_ (ld_blt I hg2 hm2 PyProof.Rows.boot_reversed (PyProof.Rows.callWith_type1 (args_cons (thn (he.run pins s σ H _ I h) fun u s1 ⟨v, H1, I1, r1, q1⟩ => args_nil ?_) hs) hs rfl))) hs2) hs2 rfl))
  obtain ⟨a, xs, ev, hq, q⟩ := q1
  subst ev
  obtain rfl : u = Value.ref a := r1
  rcases hq with hq | hq
  ·
    obtain ⟨its, rv, p', hz⟩ := I1.list hq
    refine call_reversed_list p'.isList (args_nil ?_)
    have k0 : ∀ b o, s1.heap.get? b = some o → (s1.heap.push (revObj a ((its.toArray.size : Int) - 1))).get? b = some o := fun b o e => Heap.get?_push_of_some _ e
    have I2 : Inv X pins σ H1 { s1 with heap := s1.heap.push (revObj a ((its.toArray.size : Int) - 1)) } := I1.kept (t' := s1.toks) k0
    obtain ⟨f0, f1, f2, f3, f4, f5⟩ := I1.fpOk (H' := H1) (b := s1.heap.objs.size) (Nat.le_refl _) (I1.hok.fresh (Nat.le_refl _))
    have hl := p'.isList
    obtain ⟨ol, hol, _⟩ := id hl
    have hne : a ≠ s1.heap.objs.size := Nat.ne_of_lt (Heap.lt_size hol)
    have hn : its.toArray.size ≤ sizeLine := by rw [List.size_toArray, ← rv.length]; exact hz
    have I2f : H1 (s1.heap.push (revObj a ((its.toArray.size : Int) - 1))).objs.size = none := I2.hok.fresh (Nat.le_refl _)
    refine call_list_rev (s := { s1 with heap := s1.heap.push (revObj a ((its.toArray.size : Int) - 1)) }) (I1.ok.hd hc) ⟨_, Heap.get?_push_size _ rfl, rfl, rfl⟩ (hl.push _) hne hn fun h' tk acc c' hk hS hi => ?_
    have hit0 : H1 s1.heap.objs.size = none := I1.hok.fresh (Nat.le_refl _)
    generalize hL : (s1.heap.push (revObj a ((its.toArray.size : Int) - 1))).objs.size = L at *
    have old : ∀ b o, (s1.heap.push (revObj a ((its.toArray.size : Int) - 1))).get? b = some o → b ≠ L := fun b o e => Nat.ne_of_lt (hL ▸ Heap.lt_size e)
    refine ⟨.ref L, upd H1 L (.lst xs.reverse), ?_, rfl, q _ I2f⟩
    refine Inv.step (X := X) (ch := [s1.heap.objs.size]) (g' := s1.gens) (t' := tk) (d' := s1.drawn) (h' := h') (H' := upd H1 L (.lst xs.reverse)) I2 (fun b hb => ?_) (fun b o _ _ hc e _ => hk b o (fun z => hc (by simp [z])) e) (fun b o _ _ hc e _ => ⟨o.slots, hk b o (fun z => hc (by simp [z])) e⟩) (fun b o _ e n => by rw [upd_ne (old b o e)]; exact n)
      (fun b o hc e => ⟨o, hk b o (fun z => hc (by simp [z])) e⟩) (fun b ys e => by rw [upd_ne (ne_of_none e I2f)]; exact e) (fun b o u e => by rw [upd_ne (ne_of_none e I2f)]; exact e) (fun b ps e => ⟨#[], by rw [upd_ne (ne_of_none e I2f), e]; simp⟩) (fun m hm => ?_) (fun b u e => ?_) I2.bare
    · have e : b = s1.heap.objs.size := by simpa using hb
      subst e
      exact ⟨f3, f1, f4, f5⟩
    · obtain ⟨o, es, ep, ho, r⟩ := hm
      exact ⟨o, es, ep, hk _ o (Ne.symm f1) ho, r⟩
    · by_cases hb : b = L
      · subst hb
        rw [upd_same] at e
        cases e
        exact ⟨by rw [List.length_reverse]; exact hz, acc.toList, c', vals_rev rv hi, by rw [Array.toArray_toList]; exact hS⟩
      · rw [upd_ne hb] at e
        refine (I2.hok b u e).stay (fun c v hc q => hk c v (fun z => ?_) q) (fun c q => by rw [upd_ne (ne_of_none q I2f)]; exact q) fun c ys q => by rw [upd_ne (ne_of_none q I2f)]; exact q
        rcases hc with r | r
        · rw [← r, z, hit0] at e; cases e
        · rw [z, hit0] at r; cases r
  ·
    obtain ⟨its, rv, p', hz⟩ := I1.tuple hq
    have hn63 := line63
    have hlen := rv.length
    refine call_reversed_tup p' (fun A E Q k => len_tuple p' (by simp only [List.size_toArray] <;> omega) k) (args_nil ?_)
    have k0 : ∀ b o, s1.heap.get? b = some o → (s1.heap.push (rtObj a ((its.toArray.size : Int) - 1))).get? b = some o := fun b o e => Heap.get?_push_of_some _ e
    have I2 : Inv X pins σ H1 { s1 with heap := s1.heap.push (rtObj a ((its.toArray.size : Int) - 1)), toks := s1.toks + 1 + 1 } := I1.kept (t' := s1.toks + 1 + 1) k0
    obtain ⟨f0, f1, f2, f3, f4, f5⟩ := I1.fpOk (H' := H1) (b := s1.heap.objs.size) (Nat.le_refl _) (I1.hok.fresh (Nat.le_refl _))
    have hl := p'
    obtain ⟨ol, hol, _⟩ := id hl
    have hne : a ≠ s1.heap.objs.size := Nat.ne_of_lt (Heap.lt_size hol)
    have hn : its.toArray.size ≤ sizeLine := by rw [List.size_toArray, ← rv.length]; exact hz
    have I2f : H1 (s1.heap.push (rtObj a ((its.toArray.size : Int) - 1))).objs.size = none := I2.hok.fresh (Nat.le_refl _)
    refine call_list_rt (s := { s1 with heap := s1.heap.push (rtObj a ((its.toArray.size : Int) - 1)), toks := s1.toks + 1 + 1 }) (I1.ok.hd hc) ⟨_, Heap.get?_push_size _ rfl, rfl, rfl⟩ (tup_at hl fun o e => k0 a o e) hne hn fun h' tk acc c' hk hS hi => ?_
    have hit0 : H1 s1.heap.objs.size = none := I1.hok.fresh (Nat.le_refl _)
    generalize hL : (s1.heap.push (rtObj a ((its.toArray.size : Int) - 1))).objs.size = L at *
    have old : ∀ b o, (s1.heap.push (rtObj a ((its.toArray.size : Int) - 1))).get? b = some o → b ≠ L := fun b o e => Nat.ne_of_lt (hL ▸ Heap.lt_size e)
    refine ⟨.ref L, upd H1 L (.lst xs.reverse), ?_, rfl, q _ I2f⟩
    refine Inv.step (X := X) (ch := [s1.heap.objs.size]) (g' := s1.gens) (t' := tk) (d' := s1.drawn) (h' := h') (H' := upd H1 L (.lst xs.reverse)) I2 (fun b hb => ?_) (fun b o _ _ hc e _ => hk b o (fun z => hc (by simp [z])) e) (fun b o _ _ hc e _ => ⟨o.slots, hk b o (fun z => hc (by simp [z])) e⟩) (fun b o _ e n => by rw [upd_ne (old b o e)]; exact n)
      (fun b o hc e => ⟨o, hk b o (fun z => hc (by simp [z])) e⟩) (fun b ys e => by rw [upd_ne (ne_of_none e I2f)]; exact e) (fun b o u e => by rw [upd_ne (ne_of_none e I2f)]; exact e) (fun b ps e => ⟨#[], by rw [upd_ne (ne_of_none e I2f), e]; simp⟩) (fun m hm => ?_) (fun b u e => ?_) I2.bare
    · have e : b = s1.heap.objs.size := by simpa using hb
      subst e
      exact ⟨f3, f1, f4, f5⟩
    · obtain ⟨o, es, ep, ho, r⟩ := hm
      exact ⟨o, es, ep, hk _ o (Ne.symm f1) ho, r⟩
    · by_cases hb : b = L
      · subst hb
        rw [upd_same] at e
        cases e
        exact ⟨by rw [List.length_reverse]; exact hz, acc.toList, c', vals_rev rv hi, by rw [Array.toArray_toList]; exact hS⟩
      · rw [upd_ne hb] at e
        refine (I2.hok b u e).stay (fun c v hc q => hk c v (fun z => ?_) q) (fun c q => by rw [upd_ne (ne_of_none q I2f)]; exact q) fun c ys q => by rw [upd_ne (ne_of_none q I2f)]; exact q
        rcases hc with r | r
        · rw [← r, z, hit0] at e; cases e
        · rw [z, hit0] at r; cases r
end
end GT
set_option Elab.async false
set_option linter.all false
set_option maxRecDepth 100000
/-! Comprehensions in place, methods of owned lists, defs. -/
namespace G
open PySem PySem.Spec PyProof.Rows L2
section
variable {Γ : Wh}
variable {B H B' H' B1 H1 B2 H2 : Hp} {σ σ1 σ2 : L2.St} {st st1 st2 : G.St} {F F' F1 F2 F3 F4 G1 G2 : List Addr} {t t1 t2 : T} {v v1 v2 : V} {W : L2.WX} {fx : List Nat}
section
variable {X : Cx} {tg iter elt : Expr} {ifs : List Expr} {scope : Scope} {own : List (Str × Nat)} {on ps : List Nat} {pos pos' py spos : Pos} {tt : TG} {g : Pat} {src : Si} {test : Sm Bool} {me : Sm T}
theorem gts_nil : PTs X [] (tBm Γ W bYes) := ⟨fun pins s σ H Q I h => pts_nil.run pins s σ H Q I (by
  obtain ⟨B, st, F, S, h⟩ := h
  exact h H B F (PostS.refl S))⟩
theorem gts_one {c : Expr} {m : Sm Bool} (h : PT X c (tBm Γ W m)) : PTs X [c] (tBm Γ W m) := pts_one h
theorem ge_lc (hc : X.calm = true) (hN : X.N.Nodup) (hi : PI X tg iter (tIm Γ W src)) (ok : BlkOk X.N X.env.scope scope own)
    (hg : ∀ (s : Shared) (H : Hp) (C : Addr) (cl : List (Str × Addr)) (fp : List Addr), GP Γ (X.blk s H scope (compEnvC scope cl C X.env) fp) tg ps tt g) (ht : ∀ (s : Shared) (H : Hp) (C : Addr) (cl : List (Str × Addr)) (fp : List Addr), PTs (X.blk s H scope (compEnvC scope cl C X.env) fp) ifs (tBm Γ W0 test))
    (he : ∀ (s : Shared) (H : Hp) (C : Addr) (cl : List (Str × Addr)) (fp : List Addr), PE (X.blk s H scope (compEnvC scope cl C X.env) fp) elt (tSm Γ W0 me)) (ho : own.map (·.2) = on := by rfl) (hp : ∀ i ∈ ps, i ∈ on := by decide) (hs : ∀ x, foldedSetIterable iter X.env x = pure x := by intro _; rfl) :
    PE X (.ListComp elt [⟨tg, iter, ifs, 0⟩] scope pos) (tSm Γ W (sLC on src g test me)) := by
  subst ho
  refine ⟨fun pins s σ H Q I h => ?_⟩
  have go : PatOk Γ ps tt g := (hg s H 0 [] []).o
  exact (PE.weak (t' := tSm Γ W (sLC (own.map (·.2)) src g test me)) (pe_lc hc hN hi ok (fun s H C cl fp => (hg s H C cl fp).p) ht he hs) fun σ H Q h => e_lc go hp h).run pins s σ H Q I h
theorem gs_setLc {i : Nat} {y : Str} (hc : X.calm = true) (hN : X.N.Nodup) (hi : PI X tg iter (tIm Γ W src)) (ok : BlkOk X.N X.env.scope scope own)
    (hg : ∀ (s : Shared) (H : Hp) (C : Addr) (cl : List (Str × Addr)) (fp : List Addr), GP Γ (X.blk s H scope (compEnvC scope cl C X.env) fp) tg ps tt g) (ht : ∀ (s : Shared) (H : Hp) (C : Addr) (cl : List (Str × Addr)) (fp : List Addr), PTs (X.blk s H scope (compEnvC scope cl C X.env) fp) ifs (tBm Γ W0 test))
    (he : ∀ (s : Shared) (H : Hp) (C : Addr) (cl : List (Str × Addr)) (fp : List Addr), PE (X.blk s H scope (compEnvC scope cl C X.env) fp) elt (tSm Γ W0 me)) (hsw : swapsWith (.ListComp elt [⟨tg, iter, ifs, 0⟩] scope pos) (some (.Name y py)) spos.line X.env = pure true) (ho : own.map (·.2) = on := by rfl) (hp : ∀ i ∈ ps, i ∈ on := by decide)
    (hy : X.N[i]? = some y := by rfl) (hyl : X.env.scope.names.lookup y = some .local := by rfl) (hf : i ∉ fx := by decide) (hs : ∀ x, foldedSetIterable iter X.env x = pure x := by intro _; rfl) :
    PS X (.Assign [.Name y py] (.ListComp elt [⟨tg, iter, ifs, 0⟩] scope pos) spos) (tSs Γ W fx (sSet i (sLC on src g test me))) := by
  subst ho
  refine ⟨fun pins s σ H D I h => ?_⟩
  have go : PatOk Γ ps tt g := (hg s H 0 [] []).o
  exact (PS.weak (t' := tSs Γ W fx (sSet i (sLC (own.map (·.2)) src g test me))) (ps_setLc hc hN hy hyl hsw hi ok (fun s H C cl fp => (hg s H C cl fp).p) ht he hs) fun D σ H h => e_lc go hp (e_set hf h)).run pins s σ H D I h
theorem gs_setLcF {i : Nat} {y : Str} (hc : X.calm = true) (hN : X.N.Nodup) (hi : PI X tg iter (tIm Γ W src)) (ok : BlkOk X.N X.env.scope scope own)
    (hg : ∀ (s : Shared) (H : Hp) (C : Addr) (cl : List (Str × Addr)) (fp : List Addr), GP Γ (X.blk s H scope (compEnvC scope cl C X.env) fp) tg ps tt g) (ht : ∀ (s : Shared) (H : Hp) (C : Addr) (cl : List (Str × Addr)) (fp : List Addr), PTs (X.blk s H scope (compEnvC scope cl C X.env) fp) ifs (tBm Γ W0 test))
    (he : ∀ (s : Shared) (H : Hp) (C : Addr) (cl : List (Str × Addr)) (fp : List Addr), PE (X.blk s H scope (compEnvC scope cl C X.env) fp) elt (tSm Γ W0 me)) (hsw : swapsWith (.ListComp elt [⟨tg, iter, ifs, 0⟩] scope pos) (some (.Name y py)) spos.line X.env = pure true) (ho : own.map (·.2) = on := by rfl) (hp : ∀ i ∈ ps, i ∈ on := by decide)
    (hy : X.N[i]? = some y := by rfl) (hyl : X.env.scope.names.lookup y = some .local := by rfl) (hf : i ∉ fx := by decide) (hs : ∀ x, foldedSetIterable iter X.env x = pure x := by intro _; rfl) :
    PS X (.Assign [.Name y py] (.ListComp elt [⟨tg, iter, ifs, 0⟩] scope pos) spos) (tSs Γ W fx (sSetF i (sLC on src g test me))) := by
  subst ho
  refine ⟨fun pins s σ H D I h => ?_⟩
  have go : PatOk Γ ps tt g := (hg s H 0 [] []).o
  exact (PS.weak (t' := tSs Γ W fx (sSetF i (sLC (own.map (·.2)) src g test me))) (ps_setLc hc hN hy hyl hsw hi ok (fun s H C cl fp => (hg s H C cl fp).p) ht he hs) fun D σ H h => e_lc go hp (e_setF hf h)).run pins s σ H D I h
end

/-! ### methods that change an owned list -/
variable (Γ) in
structure PostM (B H : Hp) (F : List Addr) (x : V) (l : List T) (r : T) (v : V) (H' B' : Hp) (F' G' : List Addr) : Prop where
  ex : Sub B' H'
  o : Ow Γ B' H' x (.lst l) F'
  r : Ow Γ B' H' v r G'
  nd : (G' ++ F').Nodup
  fr : ∀ a ∈ G' ++ F', B' a = none
  u : Upd B H F B' H' (G' ++ F')
variable (Γ) in
def MethD (r : V → List V → Hp → VK → Prop) (f : List T → List T → Option (List T × T)) : Prop := ∀ {B H : Hp} {a : Addr} {us xs : List V} {l ts l' : List T} {res : T} {F G : List Addr} {Q : VK}, Sub B H → H a = some (.lst us) → OwL Γ B H us l F → OwL Γ B H xs ts G →
  (G ++ (a :: F)).Nodup → (∀ b ∈ G ++ (a :: F), B b = none) → f l ts = some (l', res) → (∀ v H' B' F' G', PostM Γ B H (G ++ (a :: F)) (.ref a) l' res v H' B' F' G' → Q v H') → r (.ref a) xs H Q
theorem Ow.lst_inv {l : List T} {F : List Addr} (h : Ow Γ B H v (.lst l) F) : ∃ a us F', v = .ref a ∧ F = a :: F' ∧ H a = some (.lst us) ∧ OwL Γ B H us l F' := by
  cases h with
  | @lst a us l F' e o => exact ⟨a, us, F', rfl, rfl, e, o⟩
/-- the thing under a name is changed by place -/
theorem PostA.meth {ts : List T} {ls : List (Option Nat)} {vs : List V} {i : Nat} {l l' : List T} {res : T} {r : V → List V → Hp → VK → Prop} {f : List T → List T → Option (List T × T)} (hd : MethD Γ r f)
    (p : PostA Γ B H F σ ts ls st1 vs H1 B1 G1 F1) (e : st1[i]? = some (some (.lst l))) (hf : f l ts = some (l', res)) {x : V} (hx : σ[i]? = some (some x)) {Q : VK}
    (q : ∀ v H' B' G F', PostV Γ B H F σ res (st1.set i (some (.lst l'))) v H' B' G F' → Q v H') : r x vs H1 Q := by
  obtain ⟨A, Gm, C, rfl, g, k⟩ := p.s.sl.open (lt_of_some e)
  obtain ⟨v, hv, o⟩ := g _ e
  rw [hx] at hv
  cases hv
  obtain ⟨a, us, Fl, rfl, rfl, ha, ol⟩ := o.lst_inv
  have nd := nd_app.mp p.nd
  have nd2 := nd_app.mp (nd_mid.mp nd.2.1)
  have sub : ∀ b ∈ A ++ C, b ∈ A ++ ((a :: Fl) ++ C) := fun b m => by
    rcases List.mem_append.mp m with m | m
    · exact List.mem_append_left _ m
    · exact List.mem_append_right _ (List.mem_append_right _ m)
  have subM : ∀ b ∈ a :: Fl, b ∈ A ++ ((a :: Fl) ++ C) := fun b m => List.mem_append_right _ (List.mem_append_left _ m)
  have dis : ∀ b ∈ A ++ C, b ∉ G1 ++ (a :: Fl) := fun b m z => by
    rcases List.mem_append.mp z with z | z
    · exact nd.2.2 b z (sub b m)
    · exact nd2.2.2 b z m
  refine hd p.s.ex ha ol p.o (nd_app.mpr ⟨nd.1, nd2.1, fun b m z => nd.2.2 b m (subM b z)⟩) (fun b m => ?_) hf fun v H2 B2 F2 G2 P => ?_
  · rcases List.mem_append.mp m with m | m
    · exact p.fr b m
    · exact p.s.fr b (subM b m)
  · have th : ∀ b ∈ A ++ C, H1 b ≠ none := fun b m => p.s.there b (sub b m)
    have at2 := P.u.at dis
    have ap := P.u.apart dis th
    have fr2 := P.u.frB dis (fun b m => p.s.fr b (sub b m)) th
    have s2 := (k B2 H2 P.u.b at2).1 (.ref a) (.lst l') F2 P.o
    rw [set_self hx] at s2
    have ndP := nd_app.mp P.nd
    have ndF : (A ++ (F2 ++ C)).Nodup := nd_mid.mpr (nd_app.mpr ⟨ndP.2.1, nd2.2.1, fun b m z => ap b z (List.mem_append_right _ m)⟩)
    have cas : ∀ b ∈ A ++ (F2 ++ C), b ∈ F2 ∨ b ∈ A ++ C := fun b m => by
      simp only [List.mem_append] at m ⊢
      rcases m with m | m | m
      · exact .inr (.inl m)
      · exact .inl m
      · exact .inr (.inr m)
    refine q v H2 B2 G2 (A ++ (F2 ++ C)) ⟨⟨P.ex, s2, ndF, fun b m => ?_⟩, P.r, nd_app.mpr ⟨ndP.1, ndF, fun b m z => ?_⟩, fun b m => P.fr b (List.mem_append_left _ m), ?_⟩
    · rcases cas b m with m | m
      · exact P.fr b (List.mem_append_right _ m)
      · exact fr2 b m
    · rcases cas b z with z | z
      · exact ndP.2.2 b m z
      · exact ap b z (List.mem_append_left _ m)
    · refine p.u.comp P.u (fun b m => ?_) fun b m => ?_
      · rcases List.mem_append.mp m with m | m
        · exact List.mem_append_left _ m
        · exact List.mem_append_right _ (subM b m)
      · rcases List.mem_append.mp m with m | m
        · exact .inl (List.mem_append_left _ m)
        · rcases cas b m with m | m
          · exact .inl (List.mem_append_right _ m)
          · exact .inr (List.mem_append_right _ (sub b m))
theorem run_sMeth {i : Nat} {f : List T → List T → Option (List T × T)} {ra : Sa} {K : T → G.St → Prop} {KX : G.X → G.St → Prop} (h : RunP (sMeth i f ra st) K KX) :
    ∃ l0, st[i]? = some (some (.lst l0)) ∧ RunP (ra st) (fun p st1 => ∃ l l' r, st1[i]? = some (some (.lst l)) ∧ f l p.1 = some (l', r) ∧ K r (st1.set i (some (.lst l')))) KX := by
  unfold sMeth at h
  split at h
  · rename_i l0 e
    refine ⟨l0, e, ?_⟩
    rw [run_bind] at h
    refine h.mono (fun p st1 q => ?_) fun _ _ q => q
    split at q
    · rename_i l e1
      split at q
      · rename_i l' r e2
        exact ⟨l, l', r, e1, e2, q⟩
      · exact q.elim
    · exact q.elim
  · exact h.elim
theorem tyV_lst {K : PySem.W.Frag} {a : Addr} {us : List V} (h : H a = some (.lst us)) : tyV K "list" (.ref a) H := .inl ⟨rfl, us, SqL.of h⟩
section
variable {X : Cx} {o a : Expr} {es : List Expr} {name : Str} {id : String} {apos pos npos : Pos} {ra : Sa} {r : V → List V → Hp → VK → Prop} {f : List T → List T → Option (List T × T)} {i : Nat}
theorem e_meth (hd : MethD Γ r f) {Q : VK} (h : tSm Γ W (sMeth i f ra) σ H Q) : tBM Γ.K "list" r (tVar i) (tAm Γ W ra) σ H Q := by
  obtain ⟨B, st, F, S, h⟩ := h
  obtain ⟨l0, e0, h⟩ := run_sMeth h
  obtain ⟨A, Gm, C, hF, g, k⟩ := S.sl.open (lt_of_some e0)
  obtain ⟨x, hx, o⟩ := g _ e0
  obtain ⟨ad, us, Fl, rfl, _, ha, _⟩ := o.lst_inv
  refine ⟨_, hx, tyV_lst ha, B, st, F, S, h.mono (fun p st1 q vs H1 B1 G1 F1 P => ?_) fun _ _ q => q⟩
  obtain ⟨l, l', res, e1, e2, q⟩ := q
  exact PostA.meth hd P e1 e2 hx q
theorem e_meth0 (hd : MethD Γ r f) {Q : VK} (h : tSm Γ W (sMeth i f aNil) σ H Q) : tBM0 Γ.K "list" r (tVar i) σ H Q := by
  obtain ⟨B, st, F, S, h⟩ := h
  obtain ⟨l0, e0, h⟩ := run_sMeth h
  obtain ⟨A, Gm, C, hF, g, k⟩ := S.sl.open (lt_of_some e0)
  obtain ⟨x, hx, o⟩ := g _ e0
  obtain ⟨ad, us, Fl, rfl, _, ha, _⟩ := o.lst_inv
  refine ⟨_, hx, tyV_lst ha, ?_⟩
  obtain ⟨l, l', res, e1, e2, q⟩ := (show ∃ l l' r, st[i]? = some (some (.lst l)) ∧ f l [] = some (l', r) ∧ _ from h)
  exact PostA.meth (ts := []) (ls := []) hd ⟨S, .nil, by simpa using S.nd, fun _ m => (nomatch m), .refl, .nil⟩ e1 e2 hx q
theorem ge_meth (hK : X.K = Γ.K) (i : Nat) {x : Str} (hd : MethD Γ r f) (pe : PE X (.Call (.Attribute (.Name x npos) name apos) (a :: es) [] pos) (tBM X.K "list" r (tVar i) (tAm Γ W ra))) :
    PE X (.Call (.Attribute (.Name x npos) name apos) (a :: es) [] pos) (tSm Γ W (sMeth i f ra)) := by
  rw [hK] at pe
  exact PE.weak pe fun _ _ _ => e_meth hd
theorem ge_meth0 (hK : X.K = Γ.K) (i : Nat) {x : Str} (hd : MethD Γ r f) (pe : PE X (.Call (.Attribute (.Name x npos) name apos) [] [] pos) (tBM0 X.K "list" r (tVar i))) :
    PE X (.Call (.Attribute (.Name x npos) name apos) [] [] pos) (tSm Γ W (sMeth i f aNil)) := by
  rw [hK] at pe
  exact PE.weak pe fun _ _ _ => e_meth0 hd
end
theorem upd_mut {a : Addr} {o : HO} {F F' : List Addr} (m : a ∈ F) (h : H a ≠ none) (s : ∀ b ∈ F', b ∈ F) : Upd B H F B (upd H a o) F' where
  b := Sub.refl B
  keep := fun b u q n => by rw [upd_ne fun z => n (by rw [z]; exact m)]; exact q
  dom := fun b q => by
    by_cases z : b = a
    · rw [z, upd_same]; exact fun y => by cases y
    · rw [upd_ne z]; exact q
  new := fun b m => .inl (s b m)
  frz := fun b u q => .inl q
theorem at_mut {a : Addr} {o : HO} {F : List Addr} (n : a ∉ F) : At H (upd H a o) F := fun b m u q => by
  rw [upd_ne fun z => n (by rw [← z]; exact m)]
  exact q
theorem sub_mut {a : Addr} {o : HO} (e : Sub B H) (n : B a = none) : Sub B (upd H a o) := e.put n
theorem OwL.snoc {w : V} {G4 : List Addr} : ∀ {us : List V} {ts : List T} {G : List Addr}, OwL Γ B H us ts G → Ow Γ B H w t G4 → OwL Γ B H (us ++ [w]) (ts ++ [t]) (G ++ G4)
  | _, _, _, .nil, o2 => by
    have := OwL.cons o2 OwL.nil
    simpa using this
  | _, _, _, .cons o1 o3, o2 => by
    rw [List.append_assoc]
    exact .cons o1 (OwL.snoc o3 o2)
theorem OwL.one {xs : List V} {G : List Addr} (h : OwL Γ B H xs [t] G) : ∃ w, xs = [w] ∧ Ow Γ B H w t G := by
  cases h with
  | cons o1 o2 =>
    cases o2
    exact ⟨_, rfl, by simpa using o1⟩
theorem md_append : MethD Γ rAppend mAppend := fun {B H a us xs l ts l' res F G Q} e ha ol ox nd fr hf q => by
  match ts, hf, ox with
  | [t], hf, ox =>
    have hf : (if l.length < line then some (l ++ [t], T.imm .non) else none) = some (l', res) := hf
    by_cases hl : l.length < line
    · rw [if_pos hl] at hf
      cases hf
      obtain ⟨w, rfl, ow⟩ := ox.one
      have n1 := nd_app.mp nd
      have n2 := List.nodup_cons.mp n1.2.1
      have aG : a ∉ G := fun z => n1.2.2 a z List.mem_cons_self
      refine ⟨a, us, w, rfl, rfl, ha, by rw [ol.len]; exact hl, q .non _ B (a :: (F ++ G)) [] ⟨sub_mut e (fr a (List.mem_append_right _ List.mem_cons_self)), .lst upd_same (OwL.snoc (ol.at (Sub.refl _) (at_mut n2.1)) (ow.at (Sub.refl _) (at_mut aG))), .imm .non, ?_, fun b m => fr b ?_, upd_mut (List.mem_append_right _ List.mem_cons_self) (by rw [ha]; exact fun z => by cases z) fun b m => ?_⟩⟩
      · show (a :: (F ++ G)).Nodup
        refine List.nodup_cons.mpr ⟨fun z => (List.mem_append.mp z).elim n2.1 aG, nd_app.mpr ⟨n2.2, n1.1, fun b m z => n1.2.2 b z (List.mem_cons_of_mem _ m)⟩⟩
      · simp only [List.nil_append, List.mem_cons, List.mem_append] at m ⊢
        rcases m with m | m | m
        · exact .inr (.inl m)
        · exact .inr (.inr m)
        · exact .inl m
      · simp only [List.nil_append, List.mem_cons, List.mem_append] at m ⊢
        rcases m with m | m | m
        · exact .inr (.inl m)
        · exact .inr (.inr m)
        · exact .inl m
    · rw [if_neg hl] at hf
      cases hf
theorem OwL.appR {us : List V} {ts : List T} {G : List Addr} (h : OwL Γ B H us ts G) : ∀ {ws : List V} {ds : List D}, RpL Γ B ws ds → OwL Γ B H (us ++ ws) (ts ++ ims ds) G
  | [], [], .nil => by simpa using h
  | w :: ws, d :: ds, .cons r1 r2 => by
    have h2 := OwL.appR (OwL.snoc h (.imm r1)) r2
    simpa [ims, List.append_assoc] using h2
theorem md_extend : MethD Γ rExtend mExtend := fun {B H a us xs l ts l' res F G Q} e ha ol ox nd fr hf q => by
  match ts, hf, ox with
  | [t], hf, ox =>
    obtain ⟨w, rfl, ow⟩ := ox.one
    have n1 := nd_app.mp nd
    have n2 := List.nodup_cons.mp n1.2.1
    have aG : a ∉ G := fun z => n1.2.2 a z List.mem_cons_self
    have rt := ow.frz (frzB_sub (F := G) e) frzB_at
    cases ht : t.toD with
    | lst r =>
      have hf : (match t.toD with
        | .lst r => if l.length + r.length ≤ line then some (l ++ ims r, T.imm .non) else none
        | _ => none) = some (l', res) := hf
      rw [ht] at hf rt
      simp only at hf
      by_cases hl : l.length + r.length ≤ line
      · rw [if_pos hl] at hf
        cases hf
        cases rt with
        | @lst b ws _ hb rl =>
          have hbH : H b = some (.lst ws) := frzB_ex e _ _ hb
          have aN : frzB B H G a = none := frzB_none (fr a (List.mem_append_right _ List.mem_cons_self)) aG
          refine ⟨a, b, us, ws, rfl, rfl, ha, hbH, by rw [ol.len, rl.len]; exact hl, q .non _ (frzB B H G) (a :: F) [] ⟨sub_mut (frzB_ex e) aN, .lst upd_same (OwL.appR ((ol.at (frzB_sub e) at_self).at (Sub.refl _) (at_mut n2.1)) rl), .imm .non, n1.2.1, fun c m => frzB_none (fr c (List.mem_append_right _ m)) fun z => n1.2.2 c z m, ?_⟩⟩
          have u := upd_mut (B := B) (o := .lst (us ++ ws)) (F := G ++ (a :: F)) (F' := a :: F) (a := a) (H := H) (List.mem_append_right _ List.mem_cons_self) (by rw [ha]; exact fun z => by cases z) fun b m => List.mem_append_right _ m
          refine ⟨frzB_sub e, u.keep, u.dom, u.new, fun c o h => ?_⟩
          unfold frzB at h
          split at h
          · rename_i m
            exact .inr (.inl (List.mem_append_left _ m))
          · exact .inl h
      · rw [if_neg hl] at hf
        cases hf
    | _ =>
      have hf : (match t.toD with
        | .lst r => if l.length + r.length ≤ line then some (l ++ ims r, T.imm .non) else none
        | _ => none) = some (l', res) := hf
      rw [ht] at hf
      cases hf
theorem OwL.unsnoc : ∀ {ts : List T} {us : List V} {G : List Addr}, OwL Γ B H us ts G → ∀ {t}, ts[ts.length - 1]? = some t → ∃ w G1 G2, us[us.length - 1]? = some w ∧ G = G1 ++ G2 ∧ OwL Γ B H us.dropLast ts.dropLast G1 ∧ Ow Γ B H w t G2
  | [], _, _, _, t, h => by simp at h
  | [t0], _, _, .cons (v := v) o .nil, t, h => by
    have e : t0 = t := by simpa using h
    subst e
    exact ⟨v, [], _, rfl, by simp, .nil, o⟩
  | t0 :: t1 :: ts, _, _, .cons (v := v) (F := F) o (.cons (v := v1) (vs := vs) o1 o2), t, h => by
    obtain ⟨w, G1, G2, hw, e, ol, ow⟩ := OwL.unsnoc (ts := t1 :: ts) (.cons o1 o2) (t := t) (by simpa using h)
    refine ⟨w, F ++ G1, G2, by simpa using hw, ?_, .cons o ol, ow⟩
    rw [List.append_assoc, ← e]
theorem md_pop : MethD Γ rPop mPop := fun {B H a us xs l ts l' res F G Q} e ha ol ox nd fr hf q => by
  match ts, hf, ox with
  | [], hf, ox =>
    cases ox
    have hf : (match l[l.length - 1]? with
      | some t => some (l.dropLast, t)
      | none => none) = some (l', res) := hf
    cases ht : l[l.length - 1]? with
    | none => rw [ht] at hf; cases hf
    | some t =>
      rw [ht] at hf
      cases hf
      obtain ⟨w, G1, G2, hw, rfl, ol1, ow⟩ := OwL.unsnoc ol ht
      have nd : (a :: (G1 ++ G2)).Nodup := nd
      have n2 := List.nodup_cons.mp nd
      have n3 := nd_app.mp n2.2
      refine ⟨a, us, w, rfl, rfl, ha, hw, q w _ B (a :: G1) G2 ⟨sub_mut e (fr a List.mem_cons_self), .lst upd_same (ol1.at (Sub.refl _) (at_mut fun z => n2.1 (List.mem_append_left _ z))), ow.at (Sub.refl _) (at_mut fun z => n2.1 (List.mem_append_right _ z)), ?_, fun b m => fr b ?_, upd_mut (by exact List.mem_cons_self) (by rw [ha]; exact fun z => by cases z) fun b m => ?_⟩⟩
      · refine nd_app.mpr ⟨n3.2.1, List.nodup_cons.mpr ⟨fun z => n2.1 (List.mem_append_left _ z), n3.1⟩, fun b m z => ?_⟩
        rcases List.mem_cons.mp z with rfl | z
        · exact n2.1 (List.mem_append_right _ m)
        · exact n3.2.2 b z m
      · simp only [List.nil_append, List.mem_cons, List.mem_append] at m ⊢
        rcases m with m | m | m
        · exact .inr (.inr m)
        · exact .inl m
        · exact .inr (.inl m)
      · simp only [List.nil_append, List.mem_cons, List.mem_append] at m ⊢
        rcases m with m | m | m
        · exact .inr (.inr m)
        · exact .inl m
        · exact .inr (.inl m)
  | _ :: _, hf, ox => cases hf
theorem md_pop0 : MethD Γ rPopAt mPop0 := fun {B H a us xs l ts l' res F G Q} e ha ol ox nd fr hf q => by
  cases ol with
  | nil => exact nomatch hf
  | @cons w t0 us' r G1 G2 ow ol1 =>
    match ts, hf, ox with
    | [], hf, _ => exact nomatch hf
    | t1 :: t2 :: ts, hf, _ => cases t1 with
      | imm d => cases d with
        | int i => cases i with
          | ofNat n => cases n <;> exact nomatch hf
          | negSucc n => exact nomatch hf
        | _ => exact nomatch hf
      | _ => exact nomatch hf
    | [.imm (.int 0)], hf, ox =>
      cases hf
      obtain ⟨z, rfl, oz⟩ := ox.one
      cases oz with
      | imm rz =>
        cases rz
        have nd : (a :: (G1 ++ G2)).Nodup := nd
        have n2 := List.nodup_cons.mp nd
        have n3 := nd_app.mp n2.2
        refine ⟨a, _, 0, 0, w, rfl, rfl, ha, by decide, by decide, ?_, rfl, ?_⟩
        · exact seqIndex_of (by omega) (by simp) 
        · refine q w _ B (a :: G2) G1 ⟨sub_mut e (fr a List.mem_cons_self), .lst upd_same (ol1.at (Sub.refl _) (at_mut fun z => n2.1 (List.mem_append_right _ z))), ow.at (Sub.refl _) (at_mut fun z => n2.1 (List.mem_append_left _ z)), ?_, fun b m => fr b ?_, upd_mut (by exact List.mem_cons_self) (by rw [ha]; exact fun z => by cases z) fun b m => ?_⟩
          · refine nd_app.mpr ⟨n3.1, List.nodup_cons.mpr ⟨fun z => n2.1 (List.mem_append_right _ z), n3.2.1⟩, fun b m z => ?_⟩
            rcases List.mem_cons.mp z with rfl | z
            · exact n2.1 (List.mem_append_left _ m)
            · exact n3.2.2 b m z
          · simp only [List.nil_append, List.mem_cons, List.mem_append] at m ⊢
            rcases m with m | m | m
            · exact .inr (.inl m)
            · exact .inl m
            · exact .inr (.inr m)
          · simp only [List.nil_append, List.mem_cons, List.mem_append] at m ⊢
            rcases m with m | m | m
            · exact .inr (.inl m)
            · exact .inl m
            · exact .inr (.inr m)
theorem md_clear : MethD Γ rClear mClear := fun {B H a us xs l ts l' res F G Q} e ha ol ox nd fr hf q => by
  match ts, hf, ox with
  | [], hf, ox =>
    cases ox
    cases hf
    refine ⟨a, us, rfl, rfl, ha, q .non _ B [a] [] ⟨sub_mut e (fr a List.mem_cons_self), .lst upd_same .nil, .imm .non, by simp, fun b m => fr b ?_, upd_mut (by exact List.mem_cons_self) (by rw [ha]; exact fun z => by cases z) fun b m => ?_⟩⟩
    · simp only [List.nil_append, List.mem_cons, List.not_mem_nil, or_false] at m ⊢
      exact .inl m
    · simp only [List.nil_append, List.mem_cons, List.not_mem_nil, or_false] at m ⊢
      exact .inl m
  | _ :: _, hf, ox => cases hf

/-! ### x op= e -/
variable (Γ) in
def IpD (ti : TIp) (f : D → D → Option T) : Prop := ∀ {B H : Hp} {x y : V} {d e : D} {t : T} {Q : VK}, Sub B H → Rp Γ B x d → Rp Γ B y e → f d e = some t → (∀ v H' B' G, NewV Γ B H t v H' B' G → Q v H') → ti x y H Q
theorem e_aug {i : Nat} {f : D → D → Option T} {ti : TIp} {m : Sm T} {D : Ends} (hd : IpD Γ ti f) (hf : i ∉ fx) (h : tSs Γ W fx (sAug i f m) D σ H) : tAug i (tSm Γ W m) ti D σ H := by
  obtain ⟨B, st, F, S, h⟩ := h
  unfold sAug at h
  split at h
  · rename_i d e
    obtain ⟨A, Gm, C, hF, g, k⟩ := S.sl.open (lt_of_some e)
    obtain ⟨x, hx, o⟩ := g _ e
    cases o with
    | imm rx =>
      rw [run_bind] at h
      refine ⟨x, hx, B, st, F, S, h.mono (fun t1 st1 q v H1 B1 G1 F1 p => ?_) fun _ _ q => OutS.x q⟩
      obtain ⟨B2, ry, p'⟩ := p.frz
      split at q
      · rename_i t2 e2
        refine hd p'.s.ex (rx.mono Γ p'.u.b) ry e2 fun w H2 B3 G3 n => ?_
        obtain ⟨B4, F4, r⟩ := PostV.storeF (fx := fx) hf (n.post p')
        exact q _ H2 B4 F4 r
      · exact q.elim
  · exact h.elim
theorem gs_aug {X : Cx} {e : Expr} {m : Sm T} {pos pos' : Pos} {i : Nat} {x : Str} {op : Operator} {f : D → D → Option T} {ti : TIp} (hN : X.N.Nodup) (ho : PIp X op ti) (hd : IpD Γ ti f) (he : PE X e (tSm Γ W m)) (hi : X.N[i]? = some x := by rfl) (hf : i ∉ fx := by decide) (hx : Loc X.env.scope x := by first | exact Or.inl rfl | exact Or.inr rfl)
    (hy : X.fn x = true ∨ X.env.scope.names.lookup x = some .local := by first | exact .inl rfl | exact .inr rfl | assumption) : PS X (.AugAssign (.Name x pos') op e pos) (tSs Γ W fx (sAug i f m)) := PS.weak (ps_aug hN hi hx he ho hy) fun _ _ _ => e_aug hd hf

/-! ### defs -/
theorem Sl.nones : ∀ n : Nat, Sl Γ B H (List.replicate n none) (List.replicate n none) []
  | 0 => .nil
  | n + 1 => .skip (Sl.nones n)
theorem Sl.app {τ : L2.St} {su : G.St} (h : Sl Γ B H σ st F) (k : Sl Γ B H τ su []) : Sl Γ B H (σ ++ τ) (st ++ su) F := by
  induction h with
  | nil => exact k
  | skip _ ih => exact .skip ih
  | cons o _ ih => exact .cons o ih
theorem Sl.fin : ∀ {vs : List V} {σ : L2.St} {st : G.St} {F : List Addr} {i : Nat}, Sl Γ B H σ st F → vs.length ≤ σ.length → (∀ j, j < vs.length → i + j ∈ fx → σ[j]? = (vs.map some)[j]?) →
    ∃ F', Sl Γ B H (vs.map some) (G.fin fx i vs.length st) F' ∧ (∀ a ∈ F', a ∈ F) ∧ (F.Nodup → F'.Nodup)
  | [], σ, st, F, i, h, _, _ => ⟨[], .nil, fun _ m => (nomatch m), fun _ => .nil⟩
  | v :: vs, σ, st, F, i, h, hl, k => by
    cases h with
    | nil => exact absurd hl (by simp)
    | skip h =>
      obtain ⟨F', s, f, n⟩ := Sl.fin (vs := vs) (i := i + 1) h (by simpa using hl) fun j hj m => by
        have := k (j + 1) (by simpa using hj) (by rw [Nat.add_assoc, Nat.add_comm 1] at m; exact m)
        simpa using this
      refine ⟨F', ?_, f, n⟩
      show Sl Γ B H (some v :: vs.map some) ((if i ∈ fx then none else none) :: G.fin fx (i + 1) vs.length _) F'
      rw [ite_self]
      exact .skip s
    | @cons w t σ' st' F0 G0 o h =>
      obtain ⟨F', s, f, n⟩ := Sl.fin (vs := vs) (i := i + 1) h (by simpa using hl) fun j hj m => by
        have := k (j + 1) (by simpa using hj) (by rw [Nat.add_assoc, Nat.add_comm 1] at m; exact m)
        simpa using this
      show ∃ F', Sl Γ B H (some v :: vs.map some) ((if i ∈ fx then some t else none) :: G.fin fx (i + 1) vs.length st') F' ∧ _
      by_cases hi : i ∈ fx
      · have e := k 0 (by simp) (by simpa using hi)
        have e' : w = v := by simpa using e
        subst e'
        rw [if_pos hi]
        refine ⟨G0 ++ F', .cons o s, fun a m => ?_, fun nd => ?_⟩
        · rcases List.mem_append.mp m with m | m
          · exact List.mem_append_left _ m
          · exact List.mem_append_right _ (f a m)
        · have nd := nd_app.mp nd
          exact nd_app.mpr ⟨nd.1, n nd.2.1, fun a m z => nd.2.2 a m (f a z)⟩
      · rw [if_neg hi]
        exact ⟨F', .skip s, fun a m => List.mem_append_right _ (f a m), fun nd => n (nd_app.mp nd).2.1⟩
/-- an exception that leaves a def -/
abbrev Wof (E : XK) : L2.WX := fun cls d _ H => E cls d H
theorem e_def {np n : Nat} {body : Ss} {vs : List V} {Q : VK} {E : XK} (h : spOf Γ (sDef np n fx body) vs H Q E) (hn : np ≤ n) :
    tSs Γ (Wof E) fx body { nx := fun _ H' => Q .non H', rt := Q } (vs.map some ++ List.replicate (n - vs.length) none) H := by
  obtain ⟨B, ts, F, S, h⟩ := h
  have hl : vs.length = ts.length := by simpa using S.sl.len
  unfold sDef at h
  by_cases hp : ts.length = np
  · rw [if_pos hp] at h
    have S' : Stt Γ B H (vs.map some ++ List.replicate (n - vs.length) none) (ts.map some ++ List.replicate (n - np) none) F := by
      rw [hl, hp]
      exact ⟨S.ex, S.sl.app (Sl.nones _), S.nd, S.fr⟩
    have key : ∀ {σ' : L2.St} {st' : G.St} {H' B' : Hp} {F' : List Addr}, Stt Γ B' H' σ' st' F' → (∀ i ∈ fx, σ'[i]? = (vs.map some ++ List.replicate (n - vs.length) none)[i]?) → σ'.length = (vs.map some ++ List.replicate (n - vs.length) none).length →
        ∃ F2, Stt Γ B' H' (vs.map some) (G.fin fx 0 np st') F2 ∧ ∀ a ∈ F2, a ∈ F' := by
      intro σ' st' H' B' F' S2 k hlen
      obtain ⟨F2, s, f, nd⟩ := Sl.fin (fx := fx) (vs := vs) (i := 0) S2.sl (by rw [hlen, List.length_append, List.length_map]; exact Nat.le_add_right _ _) fun j hj m => by
        rw [Nat.zero_add] at m
        rw [k j m, List.getElem?_append_left (by simpa using hj)]
      rw [hl, hp] at s
      exact ⟨F2, ⟨S2.ex, s, nd S2.nd, fun a m => S2.fr a (f a m)⟩, f⟩
    refine ⟨B, _, F, S', ?_⟩
    cases hb : body (ts.map some ++ List.replicate (n - np) none) with
    | no => rw [hb] at h; exact h.elim
    | ex x st' =>
      rw [hb] at h
      intro σ' cls d H' B' F' p r
      obtain ⟨F2, S2, f⟩ := key p.s p.k p.l
      exact h cls d H' B' F2 ⟨⟨S2, p.u.weak f⟩, r⟩
    | ok fl st' =>
      rw [hb] at h
      cases fl with
      | nx =>
        intro σ' H' B' F' p
        obtain ⟨F2, S2, f⟩ := key p.s p.k p.l
        exact h .non H' B' [] F2 (PostV.imm ⟨S2, p.u.weak f⟩ .non)
      | rt t =>
        intro σ' v H' B' G F' p
        obtain ⟨F2, S2, f⟩ := key p.v.s p.k p.l
        have nd := nd_app.mp p.v.nd
        refine h v H' B' G F2 ⟨S2, p.v.o, nd_app.mpr ⟨nd.1, S2.nd, fun a m z => nd.2.2 a m (f a z)⟩, p.v.fr, p.v.u.weak fun a m => ?_⟩
        rcases List.mem_append.mp m with m | m
        · exact List.mem_append_left _ m
        · exact List.mem_append_right _ (f a m)
      | bk => exact h.elim
      | ct => exact h.elim
  · rw [if_neg hp] at h
    exact h.elim
/-- a def of the text does what its combinators do -/
theorem fn_ok {P : Program} {w : World} {K : PySem.W.Frag} {mg : Str → Option Value} {base : Heap} {x qual : Str} {st : Stmt} {f : Addr} {fd : FuncData} {N ps : List Str} {k : Nat} {body : Ss} (Fk : Fun K x qual st f fd) (S : FnScope N ps (defScope st))
    (h : ∀ (cdv : Value) (A : Around) (outer : List Env) (s : Shared) (H : Hp) (E : XK), Room k (A.deeper (envOfC qual (defScope st) s.heap.objs.size f cdv)) →
      PSs (cxOf (L2.CX P w) P w K mg base N qual (defScope st) f cdv A outer s H E) (defBody st) (tSs Γ (Wof E) fx body)) (hn : ps.length ≤ N.length := by decide) :
    FnOk P w K mg base (L2.CX P w) (k + 1) f fd ps (spOf Γ (sDef ps.length N.length fx body)) := by
  refine Fk.okX S (fun vs H Q E q => ?_) fun cdv A outer s H vs Q E hr q => ⟨_, h cdv A outer s H E hr, ?_⟩
  · obtain ⟨B, ts, F, S, h⟩ := q
    have hl : vs.length = ts.length := by simpa using S.sl.len
    rw [hl]
    unfold sDef at h
    by_cases hp : ts.length = ps.length
    · exact hp
    · rw [if_neg hp] at h
      exact h.elim
  · exact e_def q hn
end
end G
set_option Elab.async false
set_option linter.all false
set_option maxRecDepth 100000
/-! A value worked out while all that is owned stands still. -/
namespace G
open PySem PySem.Spec PyProof.Rows L2
section
variable {Γ : Wh} {X : Cx} {B H B' H' : Hp} {σ : L2.St} {W : L2.WX} {st : G.St} {F G' : List Addr}
theorem Sl.frzAll (e : Sub B B') (h : Sl Γ B H σ st F) : At H B' F → Sl Γ B' H σ (frzSt st) [] := by
  induction h with
  | nil => exact fun _ => .nil
  | skip _ ih => exact fun k => .skip (ih k)
  | cons o _ ih =>
    intro k
    have := Sl.cons (Ow.imm (o.frz e k.l)) (ih k.r)
    exact this
mutual
theorem Ow.scal : ∀ {v : V} {t : T} {G' : List Addr}, Ow Γ B' H' v t G' → t.scal = true → Ow Γ B H' v t G'
  | _, _, _, .imm r, k => by
    cases r with
    | non => exact .imm .non
    | bl b => exact .imm (.bl b)
    | int b => exact .imm (.int b)
    | str b => exact .imm (.str b)
    | _ => exact nomatch k
  | _, _, _, .lst h r, k => .lst h (OwL.scal r k)
theorem OwL.scal : ∀ {v : List V} {t : List T} {G' : List Addr}, OwL Γ B' H' v t G' → T.scalL t = true → OwL Γ B H' v t G'
  | _, _, _, .nil, _ => .nil
  | _, _, _, .cons o r, k => by
    have k' := (Bool.and_eq_true _ _ ▸ k : _ = true ∧ _ = true)
    exact .cons (Ow.scal o k'.1) (OwL.scal r k'.2)
end
theorem Stt.frz (S : Stt Γ B H σ st F) : Stt Γ (frzB B H F) H σ (frzSt st) [] := ⟨frzB_ex S.ex, S.sl.frzAll (frzB_sub S.ex) frzB_at, .nil, fun _ m => nomatch m⟩
theorem Stt.still (S : Stt Γ B H σ st F) {B1 : Hp} {F1 : List Addr} (u : Upd (frzB B H F) H [] B1 H' F1) : Stt Γ B H' σ st F :=
  ⟨fun a o h => u.keep a o (S.ex a o h) fun m => (nomatch m), S.sl.at (Sub.refl B) fun a _ o h => u.keep a o h fun m => (nomatch m), S.nd, S.fr⟩
theorem Upd.still {B1 : Hp} {F1 : List Addr} (u : Upd (frzB B H F) H [] B1 H' F1) : Upd B H F B H' F :=
  ⟨Sub.refl B, fun a o h _ => u.keep a o h fun m => (nomatch m), u.dom, fun _ m => .inl m, fun _ _ h => .inl h⟩
theorem e_view {m : Sm T} {Q : VK} (h : tSm Γ W (sView m) σ H Q) : tSm Γ W m σ H Q := by
  obtain ⟨B, st, F, S, h⟩ := h
  refine ⟨frzB B H F, frzSt st, [], S.frz, ?_⟩
  unfold sView at h
  cases e : m (frzSt st) with
  | no => rw [e] at h; exact h.elim
  | ex x s => rw [e] at h; exact h.elim
  | ok t s =>
    rw [e] at h
    dsimp only at h
    cases k : t.scal with
    | false => rw [k] at h; exact h.elim
    | true =>
      rw [k] at h
      intro v H' B' G F' p
      have gn : ∀ a ∈ G, H a = none := fun a m => by
        rcases p.u.new a (List.mem_append_left _ m) with q | q
        · exact nomatch q
        · exact q
      refine h v H' B G F ⟨S.still p.u, p.o.scal k, ?_, fun a m => S.ex.none (gn a m), ?_⟩
      · exact nd_app.mpr ⟨(nd_app.mp p.nd).1, S.nd, fun a m z => S.there a z (gn a m)⟩
      · have u := Upd.still p.u
        exact ⟨u.b, u.keep, u.dom, fun a m => (List.mem_append.mp m).elim (fun z => .inr (gn a z)) .inl, u.frz⟩
theorem e_viewB {m : Sm Bool} {Q : Bool → Hp → Prop} (h : tBm Γ W (sViewB m) σ H Q) : tBm Γ W m σ H Q := by
  obtain ⟨B, st, F, S, h⟩ := h
  refine ⟨frzB B H F, frzSt st, [], S.frz, ?_⟩
  unfold sViewB at h
  cases e : m (frzSt st) with
  | no => rw [e] at h; exact h.elim
  | ex x s => rw [e] at h; exact h.elim
  | ok b s =>
    rw [e] at h
    intro H' B' F' p
    exact h H' B F ⟨S.still p.u, Upd.still p.u⟩
theorem ge_view {e : Expr} {m : Sm T} (h : PE X e (tSm Γ W m)) : PE X e (tSm Γ W (sView m)) := PE.weak h fun _ _ _ => e_view
theorem gt_view {e : Expr} {m : Sm Bool} (h : PT X e (tBm Γ W m)) : PT X e (tBm Γ W (sViewB m)) := PT.weak h fun _ _ _ => e_viewB
/-- a call that promises nothing -/
theorem fn_no {P : Program} {w : World} {K : PySem.W.Frag} {mg : Str → Option Value} {base : Heap} {CX : CXT} {k : Nat} {f : Addr} {fd : FuncData} {ps : List Str} : FnOk P w K mg base CX k f fd ps (spOf Γ fun _ => .no) :=
  ⟨fun _ _ _ _ q => by obtain ⟨_, _, _, _, z⟩ := q; exact z.elim, fun _ _ _ _ _ _ _ _ _ _ _ _ _ q => by obtain ⟨_, _, _, _, z⟩ := q; exact z.elim⟩
end
end G
set_option Elab.async false
set_option linter.all false
set_option maxRecDepth 100000
/-! Operators and built-ins on data. -/
namespace G
open PySem PySem.Spec PyProof.Rows L2
section
variable {Γ : Wh} {X : Cx}
variable {B H B' H' : Hp} {v : V} {d : D}
theorem new_int {i : Int} (e : Sub B H) : NewV Γ B H (.imm (.int i)) (.int i) H B [] := NewV.imm e (.int i)
theorem new_bl {i : Bool} (e : Sub B H) : NewV Γ B H (.imm (.bl i)) (.bl i) H B [] := NewV.imm e (.bl i)
theorem new_str {i : Str} (e : Sub B H) : NewV Γ B H (.imm (.str i)) (.str i) H B [] := NewV.imm e (.str i)
theorem ims_ow {vs : List V} {l : List D} (r : RpL Γ B vs l) : OwL Γ B H vs (ims l) [] := by
  have := OwL.appR (Γ := Γ) (B := B) (H := H) .nil r
  simpa using this
/-- a new list of data -/
theorem new_lst {p : Addr} {vs : List V} {l : List D} (e : Sub B H) (hp : H p = none) (r : RpL Γ B vs l) : NewV Γ B H (.lst (ims l)) (.ref p) (upd H p (.lst vs)) B [p] :=
  ⟨e.put (e.none hp), .lst upd_same (ims_ow r), (by simp), fun a m => by rw [List.mem_singleton.mp m]; exact e.none hp, upd_newH hp⟩
theorem RpL.app {vs ws : List V} {l m : List D} : RpL Γ B vs l → RpL Γ B ws m → RpL Γ B (vs ++ ws) (l ++ m)
  | .nil, r => r
  | .cons a b, r => .cons a (RpL.app b r)
theorem RpL.rev {vs : List V} {l : List D} : RpL Γ B vs l → RpL Γ B vs.reverse l.reverse
  | .nil => .nil
  | .cons a b => by
    rw [List.reverse_cons, List.reverse_cons]
    exact RpL.app (RpL.rev b) (.cons a .nil)
theorem RpL.drop {vs : List V} {l : List D} : ∀ n : Nat, RpL Γ B vs l → RpL Γ B (vs.drop n) (l.drop n)
  | 0, r => r
  | n + 1, .nil => .nil
  | n + 1, .cons a b => RpL.drop n b
theorem RpL.take {vs : List V} {l : List D} : ∀ n : Nat, RpL Γ B vs l → RpL Γ B (vs.take n) (l.take n)
  | 0, _ => .nil
  | n + 1, .nil => .nil
  | n + 1, .cons a b => .cons a (RpL.take n b)
theorem RpL.rep {vs : List V} {l : List D} (r : RpL Γ B vs l) : ∀ n : Nat, RpL Γ B (List.replicate n vs).flatten (List.replicate n l).flatten
  | 0 => .nil
  | n + 1 => by
    rw [List.replicate_succ, List.replicate_succ, List.flatten_cons, List.flatten_cons]
    exact RpL.app r (RpL.rep r n)
theorem RpL.allI : ∀ {l : List D} {vs : List V} {ns : List Int}, RpL Γ B vs l → G.allI l = some ns → vs = ns.map V.int
  | [], _, _, .nil, e => by cases e; rfl
  | .int i :: l, _, ns, .cons (.int _) r, e => by
    have e : (G.allI l).map (i :: ·) = some ns := e
    cases q : G.allI l with
    | none => rw [q] at e; cases e
    | some ms =>
      rw [q] at e
      cases e
      rw [RpL.allI r q]
      rfl
theorem RpL.allS : ∀ {l : List D} {vs : List V} {ns : List Str}, RpL Γ B vs l → G.allS l = some ns → vs = ns.map V.str
  | [], _, _, .nil, e => by cases e; rfl
  | .str i :: l, _, ns, .cons (.str _) r, e => by
    have e : (G.allS l).map (i :: ·) = some ns := e
    cases q : G.allS l with
    | none => rw [q] at e; cases e
    | some ms =>
      rw [q] at e
      cases e
      rw [RpL.allS r q]
      rfl

/-! ### arithmetic -/
theorem mul_ok {i j : Int} (h : bits i + bits j < mulLine) : IntMulOk i j := by
  have b : ∀ x : Int, Builtin.Int.intBits x ≤ bits x + 1 := fun x => by
    unfold Builtin.Int.intBits bits
    split <;> omega
  have h1 := b i
  have h2 := b j
  have e : bitsLine = 134217728 := by decide
  have m : mulLine = 134000000 := rfl
  unfold IntMulOk
  intro z
  rw [Bool.and_eq_true] at z
  have z3 := of_decide_eq_true z.2
  rw [e] at z3
  omega
theorem o_mul : OpR X (binaryOp .Mult) (rI (fun i j => bits i + bits j < mulLine) fun i j => .int (i * j)) := opI fun _ _ _ _ _ _ _ hc q => mul_int q (mul_ok hc)
theorem o_fdiv : OpR X (binaryOp .FloorDiv) (rI (fun _ j => 0 < j ∧ bits j < 9000) fun i j => .int (i / j)) := opI fun i j _ _ _ _ _ hc q => by
  have h1 : (0 : Int) < j := hc.1
  exact floordiv_int (by omega) (by rw [Int.fdiv_eq_ediv_of_nonneg i (by omega)]; exact q) (.inl (PyProof.noPylong_of_log2 hc.2))
theorem o_mulS : OpR X (binaryOp .Mult) (fun x y H Q => ∃ s k, x = .str s ∧ y = .int k ∧ (k < 1000000 ∧ -1000000 < k ∧ s.length ≤ 10000 ∧ s.length * k.toNat ≤ line) ∧ Q (.str (Txt.mul s k)) H) := by
  intro pins s σ H x y v u Q I rx ry h
  obtain ⟨z, k, rfl, rfl, ⟨h1, h2, h3, h4⟩, q⟩ := h
  obtain ⟨t, rfl⟩ := rx
  obtain ⟨t', rfl⟩ := ry
  refine SB.mul ⟨?_, fun hk _ hz => ?_, fun hk _ => ?_⟩ fun t2 k2 => ⟨.str _, H, I.tok _, ⟨_, rfl⟩, q⟩
  · rw [Bool.or_eq_false_iff, decide_eq_false_iff_not, decide_eq_false_iff_not]
    omega
  · have h5 : ((2 : Int) ^ 63 - 1) / k ≥ (2 ^ 63 - 1) / 1000000 := by
      apply Int.le_ediv_of_mul_le (by omega)
      have : (2 ^ 63 - 1 : Int) / 1000000 * k ≤ (2 ^ 63 - 1 : Int) / 1000000 * 1000000 := Int.mul_le_mul_of_nonneg_left (by omega) (by decide)
      have h6 : (2 ^ 63 - 1 : Int) / 1000000 * 1000000 ≤ 2 ^ 63 - 1 := by decide
      omega
    have h7 : ((2 : Int) ^ 63 - 1) / 1000000 > 10000 := by decide
    omega
  · have : line = sizeLine := by decide
    rw [this] at h4
    unfold Builtin.Str.tooLong
    simp only [decide_eq_false_iff_not]
    omega
theorem d_add : OpD Γ (fun x y H Q => rI0 (fun i j => .int (i + j)) x y H Q ∨ (∃ i j, x = .str i ∧ y = .str j ∧ i.length + j.length ≤ sizeLine ∧ Q (.str (i ++ j)) H) ∨ rCat x y H Q ∨ rCatT Γ.K x y H Q) fAdd := fun {B H x y d e t Q} s rx ry h k => by
  have L : line = sizeLine := by decide
  cases rx with
  | int i => cases ry with
    | int j => cases h; exact .inl ⟨i, j, rfl, rfl, k _ _ _ _ (new_int s)⟩
    | _ => cases h
  | str i => cases ry with
    | str j =>
      have h : (if i.length + j.length ≤ line then some (T.imm (.str (i ++ j))) else none) = some t := h
      by_cases z : i.length + j.length ≤ line
      · rw [if_pos z] at h
        cases h
        exact .inr (.inl ⟨i, j, rfl, rfl, L ▸ z, k _ _ _ _ (new_str s)⟩)
      · rw [if_neg z] at h; cases h
    | _ => cases h
  | @lst a vs l ha rl => cases ry with
    | @lst b ws r hb rr =>
      have h : (if l.length + r.length ≤ line then some (T.lst (ims (l ++ r))) else none) = some t := h
      by_cases z : l.length + r.length ≤ line
      · rw [if_pos z] at h
        cases h
        exact .inr (.inr (.inl ⟨a, b, vs, ws, rfl, rfl, s _ _ ha, s _ _ hb, by rw [rl.len, rr.len]; exact L ▸ z, fun p hp => k _ _ _ _ (new_lst s hp (rl.app rr))⟩))
      · rw [if_neg z] at h; cases h
    | _ => cases h
  | @tup a vs l ha rl => cases ry with
    | @tup b ws r hb rr =>
      have h : (if l.length + r.length ≤ line ∧ 0 < l.length ∧ 0 < r.length then some (T.imm (.tup (l ++ r))) else none) = some t := h
      by_cases z : l.length + r.length ≤ line ∧ 0 < l.length ∧ 0 < r.length
      · rw [if_pos z] at h
        cases h
        obtain ⟨z1, z2, z3⟩ := z
        rw [← rl.len] at z2
        rw [← rr.len] at z3
        refine .inr (.inr (.inr ⟨a, b, vs, ws, rfl, rfl, s.st ha, s.st hb, fun e => by rw [e] at z2; simp at z2, by rw [rl.len, rr.len]; exact L ▸ z1, fun e => by rw [e] at z3; simp at z3, fun _ p hp => k _ _ _ _ (NewV.obj s hp (.tup (SqT.of upd_same) ((rl.app rr).mono Γ (Sub.new (s.none hp)))))⟩))
      · rw [if_neg z] at h; cases h
    | _ => cases h
  | _ => cases ry <;> cases h
theorem o_add : OpR X (binaryOp .Add) (fun x y H Q => rI0 (fun i j => .int (i + j)) x y H Q ∨ (∃ i j, x = .str i ∧ y = .str j ∧ i.length + j.length ≤ sizeLine ∧ Q (.str (i ++ j)) H) ∨ rCat x y H Q ∨ rCatT X.K x y H Q) := op_add.or (op_add_str.or (op_cat.or op_catT))
theorem d_sub : OpD Γ (rI0 fun i j => .int (i - j)) fSub := fun {B H x y d e t Q} s rx ry h k => by
  cases rx with
  | int i => cases ry with
    | int j => cases h; exact ⟨i, j, rfl, rfl, k _ _ _ _ (new_int s)⟩
    | _ => cases h
  | _ => cases h
theorem d_mod : OpD Γ (rI (fun _ j => 0 < j) fun i j => .int (i % j)) fMod := fun {B H x y d e t Q} s rx ry h k => by
  cases rx with
  | int i => cases ry with
    | int j =>
      have h : (if 0 < j then some (T.imm (.int (i % j))) else none) = some t := h
      by_cases z : 0 < j
      · rw [if_pos z] at h
        cases h
        exact ⟨i, j, rfl, rfl, z, k _ _ _ _ (new_int s)⟩
      · rw [if_neg z] at h; cases h
    | _ => cases h
  | _ => cases h
theorem d_div : OpD Γ (rI (fun _ j => 0 < j ∧ bits j < 9000) fun i j => .int (i / j)) fDiv := fun {B H x y d e t Q} s rx ry h k => by
  cases rx with
  | int i => cases ry with
    | int j =>
      have h : (if 0 < j ∧ bits j < 9000 then some (T.imm (.int (i / j))) else none) = some t := h
      by_cases z : 0 < j ∧ bits j < 9000
      · rw [if_pos z] at h
        cases h
        exact ⟨i, j, rfl, rfl, z, k _ _ _ _ (new_int s)⟩
      · rw [if_neg z] at h; cases h
    | _ => cases h
  | _ => cases h
theorem d_pow : OpD Γ (rI CPow fun i j => .int (i ^ j.toNat)) fPow := fun {B H x y d e t Q} s rx ry h k => by
  cases rx with
  | int i => cases ry with
    | int j =>
      have h : (if 0 ≤ j ∧ j ≤ 1000000 ∧ i.natAbs < 2 ^ 64 then some (T.imm (.int (i ^ j.toNat))) else none) = some t := h
      by_cases z : 0 ≤ j ∧ j ≤ 1000000 ∧ i.natAbs < 2 ^ 64
      · rw [if_pos z] at h
        cases h
        exact ⟨i, j, rfl, rfl, z, k _ _ _ _ (new_int s)⟩
      · rw [if_neg z] at h; cases h
    | _ => cases h
  | _ => cases h
theorem d_mul : OpD Γ (fun x y H Q => rI (fun i j => bits i + bits j < mulLine) (fun i j => .int (i * j)) x y H Q ∨ (∃ s k, x = .str s ∧ y = .int k ∧ (k < 1000000 ∧ -1000000 < k ∧ s.length ≤ 10000 ∧ s.length * k.toNat ≤ line) ∧ Q (.str (Txt.mul s k)) H) ∨ rRep x y H Q) fMul := fun {B H x y d e t Q} s rx ry h k => by
  have L : line = sizeLine := by decide
  cases rx with
  | int i => cases ry with
    | int j =>
      have h : (if bits i + bits j < mulLine then some (T.imm (.int (i * j))) else none) = some t := h
      by_cases z : bits i + bits j < mulLine
      · rw [if_pos z] at h
        cases h
        exact .inl ⟨i, j, rfl, rfl, z, k _ _ _ _ (new_int s)⟩
      · rw [if_neg z] at h; cases h
    | _ => cases h
  | str i => cases ry with
    | int j =>
      have h : (if j < 1000000 ∧ -1000000 < j ∧ i.length ≤ 10000 ∧ i.length * j.toNat ≤ line then some (T.imm (.str (Txt.mul i j))) else none) = some t := h
      by_cases z : j < 1000000 ∧ -1000000 < j ∧ i.length ≤ 10000 ∧ i.length * j.toNat ≤ line
      · rw [if_pos z] at h
        cases h
        exact .inr (.inl ⟨i, j, rfl, rfl, z, k _ _ _ _ (new_str s)⟩)
      · rw [if_neg z] at h; cases h
    | _ => cases h
  | @lst a vs l ha rl => cases ry with
    | int j =>
      have h : (if j < 1000000 ∧ -1000000 < j ∧ l.length * j.toNat ≤ line then some (T.lst (ims ((List.replicate j.toNat l).flatten))) else none) = some t := h
      by_cases z : j < 1000000 ∧ -1000000 < j ∧ l.length * j.toNat ≤ line
      · rw [if_pos z] at h
        cases h
        exact .inr (.inr ⟨a, j, vs, rfl, rfl, s _ _ ha, by omega, by omega, by rw [rl.len]; exact L ▸ z.2.2, fun p hp => k _ _ _ _ (new_lst s hp (rl.rep j.toNat))⟩)
      · rw [if_neg z] at h; cases h
    | _ => cases h
  | _ => cases ry <;> cases h
theorem o_mulA : OpR X (binaryOp .Mult) (fun x y H Q => rI (fun i j => bits i + bits j < mulLine) (fun i j => .int (i * j)) x y H Q ∨ (∃ s k, x = .str s ∧ y = .int k ∧ (k < 1000000 ∧ -1000000 < k ∧ s.length ≤ 10000 ∧ s.length * k.toNat ≤ line) ∧ Q (.str (Txt.mul s k)) H) ∨ rRep x y H Q) := o_mul.or (o_mulS.or op_rep)
theorem d_neg : UnD Γ (rU fun i => .int (-i)) fNeg := fun {B H x d t Q} s rx h k => by
  cases rx with
  | int i => cases h; exact ⟨i, rfl, k _ _ _ _ (new_int s)⟩
  | _ => cases h
theorem d_lt : OpD Γ (rI0 fun i j => .bl (decide (i < j))) fLt := fun {B H x y d e t Q} s rx ry h k => by
  cases rx with
  | int i => cases ry with
    | int j => cases h; exact ⟨i, j, rfl, rfl, k _ _ _ _ (new_bl s)⟩
    | _ => cases h
  | _ => cases h
theorem d_le : OpD Γ (rI0 fun i j => .bl (decide (i ≤ j))) fLe := fun {B H x y d e t Q} s rx ry h k => by
  cases rx with
  | int i => cases ry with
    | int j => cases h; exact ⟨i, j, rfl, rfl, k _ _ _ _ (new_bl s)⟩
    | _ => cases h
  | _ => cases h
theorem d_gt : OpD Γ (rI0 fun i j => .bl (decide (j < i))) fGt := fun {B H x y d e t Q} s rx ry h k => by
  cases rx with
  | int i => cases ry with
    | int j => cases h; exact ⟨i, j, rfl, rfl, k _ _ _ _ (new_bl s)⟩
    | _ => cases h
  | _ => cases h
theorem d_ge : OpD Γ (rI0 fun i j => .bl (decide (j ≤ i))) fGe := fun {B H x y d e t Q} s rx ry h k => by
  cases rx with
  | int i => cases ry with
    | int j => cases h; exact ⟨i, j, rfl, rfl, k _ _ _ _ (new_bl s)⟩
    | _ => cases h
  | _ => cases h

/-! ### == and in -/
mutual
theorem Rp.dp (e : Sub B H) : ∀ {n : Nat} {v : V} {d : D}, Rp Γ B v d → D.flat n d = true → Dp Γ.K H v d.py
  | _, _, _, .non, _ => .non
  | _, _, _, .bl b, _ => .bl b
  | _, _, _, .int b, _ => .int b
  | _, _, _, .str b, _ => .str b
  | n + 1, _, _, .tup h r, f => .tup (e.st h) (RpL.dp e r f)
  | n + 1, _, _, .lst h r, f => .lst (SqL.of (e _ _ h)) (RpL.dp e r f)
  | 0, _, _, .tup _ _, f => nomatch f
  | 0, _, _, .lst _ _, f => nomatch f
  | 0, _, _, .rol _ _, f => nomatch f
  | n + 1, _, _, .rol _ _, f => nomatch f
  | 0, _, _, .dK _ _, f => nomatch f
  | n + 1, _, _, .dK _ _, f => nomatch f
  | 0, _, _, .dT _ _, f => nomatch f
  | n + 1, _, _, .dT _ _, f => nomatch f
  | 0, _, _, .obj _ _, f => nomatch f
  | n + 1, _, _, .obj _ _, f => nomatch f
theorem RpL.dp (e : Sub B H) : ∀ {n : Nat} {v : List V} {d : List D}, RpL Γ B v d → d.all (D.flat n) = true → DpAll Γ.K H v (D.pys d)
  | _, _, _, .nil, _ => .nil
  | n, _, _, .cons h r, f => by
    rw [List.all_cons, Bool.and_eq_true] at f
    exact .cons (Rp.dp e h f.1) (RpL.dp e r f.2)
end
theorem flat_ok : ∀ (n : Nat) (d : D), D.flat n d = true → d.py.canLay0 = true ∧ d.py.depth ≤ n
  | n, .non, _ => ⟨rfl, Nat.zero_le _⟩
  | n, .bl _, _ => ⟨rfl, Nat.zero_le _⟩
  | n, .int _, _ => ⟨rfl, Nat.zero_le _⟩
  | n, .str s, h => ⟨by cases n <;> exact h, Nat.zero_le _⟩
  | n + 1, .tup l, h => by
    have all : ∀ l : List D, l.all (D.flat n) = true → PyData.canLayAll0 (D.pys l) = true ∧ PyData.depthAll (D.pys l) ≤ n := by
      intro l
      induction l with
      | nil => intro _; exact ⟨rfl, Nat.zero_le _⟩
      | cons d r ih =>
        intro h
        rw [List.all_cons, Bool.and_eq_true] at h
        have h1 := flat_ok n d h.1
        have h2 := ih h.2
        refine ⟨?_, Nat.max_le.mpr ⟨h1.2, h2.2⟩⟩
        show (d.py.canLay0 && PyData.canLayAll0 (D.pys r)) = true
        rw [h1.1, h2.1]
        rfl
    have := all l h
    exact ⟨this.1, Nat.succ_le_succ this.2⟩
  | n + 1, .lst l, h => by
    have all : ∀ l : List D, l.all (D.flat n) = true → PyData.canLayAll0 (D.pys l) = true ∧ PyData.depthAll (D.pys l) ≤ n := by
      intro l
      induction l with
      | nil => intro _; exact ⟨rfl, Nat.zero_le _⟩
      | cons d r ih =>
        intro h
        rw [List.all_cons, Bool.and_eq_true] at h
        have h1 := flat_ok n d h.1
        have h2 := ih h.2
        refine ⟨?_, Nat.max_le.mpr ⟨h1.2, h2.2⟩⟩
        show (d.py.canLay0 && PyData.canLayAll0 (D.pys r)) = true
        rw [h1.1, h2.1]
        rfl
    have := all l h
    exact ⟨this.1, Nat.succ_le_succ this.2⟩
  | 0, .tup _, h => nomatch h
  | 0, .lst _, h => nomatch h
  | 0, .rol _, h => nomatch h
  | _ + 1, .rol _, h => nomatch h
  | 0, .dct _ _, h => nomatch h
  | _ + 1, .dct _ _, h => nomatch h
  | 0, .obj _ _, h => nomatch h
  | _ + 1, .obj _ _, h => nomatch h
theorem flat_shaped (h : D.flat 40 d = true) : SeqAt.shaped d.py = true := by
  have := flat_ok 40 d h
  unfold SeqAt.shaped
  rw [this.1, Bool.true_and, decide_eq_true_eq]
  omega
theorem sEq_ok {x y : V} {d e : D} {c : Bool} (rx : Rp Γ B x d) (ry : Rp Γ B y e) (h : sEq d e = some c) : scal x y = true ∧ decide (x = y) = c := by
  cases rx <;> cases ry <;> first
    | (cases h; done)
    | (cases h; exact ⟨rfl, by simp⟩)
    | (cases h; exact ⟨rfl, rfl⟩)
theorem d_eq : OpD Γ (fun x y H Q => rEq x y H Q ∨ rEqD Γ.K x y H Q) fEq := fun {B H x y d e t Q} s rx ry h k => by
  unfold fEq dEq at h
  cases q : sEq d e with
  | some c =>
    rw [q] at h
    cases h
    obtain ⟨h1, h2⟩ := sEq_ok rx ry q
    exact .inl ⟨h1, by rw [h2]; exact k _ _ _ _ (new_bl s)⟩
  | none =>
    rw [q] at h
    simp only at h
    by_cases z : (D.flat 40 d && D.flat 40 e) = true
    · rw [if_pos z] at h
      cases h
      rw [Bool.and_eq_true] at z
      exact .inr ⟨_, _, rx.dp s z.1, ry.dp s z.2, flat_shaped z.1, flat_shaped z.2, k _ _ _ _ (new_bl s)⟩
    · rw [if_neg z] at h; cases h
theorem d_ne : OpD Γ (fun x y H Q => rNe x y H Q ∨ rNeD Γ.K x y H Q) fNe := fun {B H x y d e t Q} s rx ry h k => by
  unfold fNe dEq at h
  cases q : sEq d e with
  | some c =>
    rw [q] at h
    cases h
    obtain ⟨h1, h2⟩ := sEq_ok rx ry q
    exact .inl ⟨h1, by rw [h2]; exact k _ _ _ _ (new_bl s)⟩
  | none =>
    rw [q] at h
    simp only at h
    by_cases z : (D.flat 40 d && D.flat 40 e) = true
    · rw [if_pos z] at h
      cases h
      rw [Bool.and_eq_true] at z
      exact .inr ⟨_, _, rx.dp s z.1, ry.dp s z.2, flat_shaped z.1, flat_shaped z.2, k _ _ _ _ (new_bl s)⟩
    · rw [if_neg z] at h; cases h
theorem o_eq (hu : X.A.units + 64 < cLine) : OpR X (compareOp .Eq) (fun x y H Q => rEq x y H Q ∨ rEqD X.K x y H Q) := op_eq.or (op_eqD hu)
theorem o_ne (hu : X.A.units + 64 < cLine) : OpR X (compareOp .NotEq) (fun x y H Q => rNe x y H Q ∨ rNeD X.K x y H Q) := op_ne.or (op_neD hu)
theorem flat0_V {v : V} {d : D} (r : Rp Γ B v d) (h : D.flat 0 d = true) : flatV v = true := by
  cases r <;> first | rfl | cases h
theorem flat0_eq {v w : V} {d e : D} (r : Rp Γ B v d) (h : D.flat 0 d = true) (r' : Rp Γ B w e) (h' : D.flat 0 e = true) : eqV v w = PyData.eqv d.py e.py := by
  cases r <;> first
    | (cases h; done)
    | (cases r' <;> first | (cases h'; done) | rfl)
theorem flat0_all : ∀ {vs : List V} {l : List D}, RpL Γ B vs l → l.all (D.flat 0) = true → vs.all flatV = true
  | _, _, .nil, _ => rfl
  | _, _, .cons r1 r2, h => by
    rw [List.all_cons, Bool.and_eq_true] at h
    rw [List.all_cons, flat0_V r1 h.1, flat0_all r2 h.2]
    rfl
theorem flat0_in {x : V} {d : D} (rx : Rp Γ B x d) (hx : D.flat 0 d = true) : ∀ {vs : List V} {l : List D}, RpL Γ B vs l → l.all (D.flat 0) = true → inV x vs = l.any fun z => PyData.eqv z.py d.py
  | _, _, .nil, _ => rfl
  | _, _, .cons r1 r2, h => by
    rw [List.all_cons, Bool.and_eq_true] at h
    have ih := flat0_in rx hx r2 h.2
    unfold inV at ih ⊢
    rw [List.any_cons, List.any_cons, ih, flat0_eq r1 h.1 rx hx]
theorem any_pys (l : List D) (d : PyData) : ((D.pys l).any fun z => PyData.eqv z d) = l.any fun z => PyData.eqv z.py d := by
  induction l with
  | nil => rfl
  | cons a r ih => show (PyData.eqv a.py d || (D.pys r).any _) = _; rw [ih]; rfl
theorem list_shaped {l : List D} (h : l.all (D.flat 39) = true) : SeqAt.shaped (.list (D.pys l)) = true := flat_shaped (d := .lst l) h
theorem in_ok {x y : V} {d e : D} {c : Bool} (s : Sub B H) (rx : Rp Γ B x d) (ry : Rp Γ B y e) (h : dIn d e = some c) :
    (∃ k z, x = .str ⟨#[k]⟩ ∧ y = .str z ∧ c = decide (k ∈ z.cps.toList)) ∨ (∃ p ps, Dp Γ.K H x p ∧ Dp Γ.K H y (.list ps) ∧ SeqAt.shaped p = true ∧ SeqAt.shaped (.list ps) = true ∧ c = ps.any fun z => PyData.eqv z p) ∨
      ∃ p xs, y = .ref p ∧ SqT Γ.K H p xs ∧ flatV x = true ∧ xs.all flatV = true ∧ c = inV x xs := by
  cases ry with
  | @tup a vs l ha rl =>
    have h : (if D.flat 0 d && l.all (D.flat 0) then some (l.any fun z => PyData.eqv z.py d.py) else none) = some c := by cases d <;> exact h
    by_cases z : (D.flat 0 d && l.all (D.flat 0)) = true
    · rw [if_pos z] at h
      cases h
      rw [Bool.and_eq_true] at z
      exact .inr (.inr ⟨a, vs, rfl, s.st ha, flat0_V rx z.1, flat0_all rl z.2, (flat0_in rx z.1 rl z.2).symm⟩)
    · rw [if_neg z] at h; cases h
  | @lst a vs l ha rl =>
    have h : (if D.flat 40 d && l.all (D.flat 39) then some (l.any fun z => PyData.eqv z.py d.py) else none) = some c := by cases d <;> exact h
    by_cases z : (D.flat 40 d && l.all (D.flat 39)) = true
    · rw [if_pos z] at h
      cases h
      rw [Bool.and_eq_true] at z
      exact .inr (.inl ⟨d.py, D.pys l, rx.dp s z.1, .lst (SqL.of (s _ _ ha)) (rl.dp s z.2), flat_shaped z.1, list_shaped z.2, (any_pys l d.py).symm⟩)
    · rw [if_neg z] at h; cases h
  | @rol a vs l ha rl =>
    have h : (if D.flat 40 d && l.all (D.flat 39) then some (l.any fun z => PyData.eqv z.py d.py) else none) = some c := by cases d <;> exact h
    by_cases z : (D.flat 40 d && l.all (D.flat 39)) = true
    · rw [if_pos z] at h
      cases h
      rw [Bool.and_eq_true] at z
      exact .inr (.inl ⟨d.py, D.pys l, rx.dp s z.1, .lst (s.sl ha) (rl.dp s z.2), flat_shaped z.1, list_shaped z.2, (any_pys l d.py).symm⟩)
    · rw [if_neg z] at h; cases h
  | str z => cases rx with
    | str w =>
      have h : (match w.cps.toList with
        | [c] => some (decide (c ∈ z.cps.toList))
        | _ => none) = some c := h
      obtain ⟨⟨l⟩⟩ := w
      match l, h with
      | [k], h => cases h; exact .inl ⟨k, z, rfl, rfl, rfl⟩
      | [], h => cases h
      | _ :: _ :: _, h => cases h
    | _ => cases h
  | _ => cases d <;> cases h
def rInAll (K : PySem.W.Frag) : R2 := fun x y H Q => (∃ (c : Nat) (z : Str), x = .str ⟨#[c]⟩ ∧ y = .str z ∧ Q (.bl (decide (c ∈ z.cps.toList))) H) ∨ rInD K x y H Q ∨ rIn K false x y H Q
def rNotInAll (K : PySem.W.Frag) : R2 := fun x y H Q => (∃ (c : Nat) (z : Str), x = .str ⟨#[c]⟩ ∧ y = .str z ∧ Q (.bl (!decide (c ∈ z.cps.toList))) H) ∨ rNotInD K x y H Q ∨ rIn K true x y H Q
theorem o_in (hu : X.A.units + 65 < cLine) : OpR X (compareOp .In) (rInAll X.K) := op_in_sign.or ((op_inD hu).or op_in_seq)
theorem o_notIn (hu : X.A.units + 65 < cLine) : OpR X (compareOp .NotIn) (rNotInAll X.K) := op_notIn_sign.or ((op_notInD hu).or op_notIn_seq)
theorem d_in : OpD Γ (rInAll Γ.K) fIn := fun {B H x y d e t Q} s rx ry h k => by
  unfold fIn at h
  cases q : dIn d e with
  | none => rw [q] at h; cases h
  | some c =>
    rw [q] at h
    cases h
    rcases in_ok s rx ry q with ⟨c', z, rfl, rfl, rfl⟩ | ⟨p, ps, h1, h2, h3, h4, rfl⟩ | ⟨p, xs, rfl, h1, h2, h3, rfl⟩
    · exact .inl ⟨c', z, rfl, rfl, k _ _ _ _ (new_bl s)⟩
    · exact .inr (.inl ⟨p, ps, h1, h2, h3, h4, k _ _ _ _ (new_bl s)⟩)
    · exact .inr (.inr ⟨p, xs, rfl, .inr h1, h2, h3, k _ _ _ _ (new_bl s)⟩)
theorem d_notIn : OpD Γ (rNotInAll Γ.K) fNotIn := fun {B H x y d e t Q} s rx ry h k => by
  unfold fNotIn at h
  cases q : dIn d e with
  | none => rw [q] at h; cases h
  | some c =>
    rw [q] at h
    cases h
    rcases in_ok s rx ry q with ⟨c', z, rfl, rfl, rfl⟩ | ⟨p, ps, h1, h2, h3, h4, rfl⟩ | ⟨p, xs, rfl, h1, h2, h3, rfl⟩
    · exact .inl ⟨c', z, rfl, rfl, k _ _ _ _ (new_bl s)⟩
    · exact .inr (.inl ⟨p, ps, h1, h2, h3, h4, k _ _ _ _ (new_bl s)⟩)
    · exact .inr (.inr ⟨p, xs, rfl, .inr h1, h2, h3, k _ _ _ _ (new_bl s)⟩)

/-! ### items, slices -/
theorem atI_eq {α : Type} (xs : List α) (i : Int) : G.atI xs i = L2.atI xs i := by
  unfold G.atI L2.atI L2.ixN
  by_cases h : 0 ≤ i
  · rw [if_pos h, if_pos h]
    by_cases h2 : i < xs.length
    · rw [if_pos h2]; rfl
    · rw [if_neg h2]
      exact List.getElem?_eq_none (by omega)
  · rw [if_neg h, if_neg h]
    by_cases h2 : -(xs.length : Int) ≤ i
    · rw [if_pos h2, if_pos (by omega)]; rfl
    · rw [if_neg h2, if_neg (by omega)]; rfl
theorem RpL.at {vs : List V} {l : List D} {i : Int} {d : D} (r : RpL Γ B vs l) (h : G.atI l i = some d) : ∃ v, L2.atI vs i = some v ∧ Rp Γ B v d := by
  rw [← atI_eq]
  unfold G.atI at h ⊢
  rw [r.len]
  split at h
  · rename_i z
    rw [if_pos z]
    exact r.get h
  · rename_i z
    rw [if_neg z]
    split at h
    · rename_i y
      rw [if_pos y]
      exact r.get h
    · cases h
theorem ix_key {l : List D} {i : Int} {t : T} (h : (G.atI l i).map T.imm = some t) : ∃ d, G.atI l i = some d ∧ t = .imm d := by
  cases q : G.atI l i with
  | none => rw [q] at h; cases h
  | some d => rw [q] at h; cases h; exact ⟨d, rfl, rfl⟩
theorem d_ix : OpD Γ (rIx Γ.K) fIx := fun {B H x y d e t Q} s rx ry h k => by
  have L : line = sizeLine := by decide
  cases rx with
  | @lst a vs l ha rl => cases ry with
    | int i =>
      obtain ⟨d, hd, rfl⟩ := ix_key h
      obtain ⟨v, hv, rv⟩ := rl.at hd
      exact .inl ⟨a, vs, i, v, rfl, rfl, SqL.of (s _ _ ha), hv, k _ _ _ _ (NewV.imm s rv)⟩
    | _ => cases h
  | @rol a vs l ha rl => cases ry with
    | int i =>
      obtain ⟨d, hd, rfl⟩ := ix_key h
      obtain ⟨v, hv, rv⟩ := rl.at hd
      exact .inl ⟨a, vs, i, v, rfl, rfl, s.sl ha, hv, k _ _ _ _ (NewV.imm s rv)⟩
    | _ => cases h
  | @tup a vs l ha rl => cases ry with
    | int i =>
      obtain ⟨d, hd, rfl⟩ := ix_key h
      obtain ⟨v, hv, rv⟩ := rl.at hd
      exact .inr (.inl ⟨a, vs, i, v, rfl, rfl, s.st ha, hv, k _ _ _ _ (NewV.imm s rv)⟩)
    | _ => cases h
  | str z => cases ry with
    | int i =>
      have h : (if z.length ≤ line then (G.atI z.cps.toList i).map fun c => T.imm (.str ⟨#[c]⟩) else none) = some t := h
      by_cases y : z.length ≤ line
      · rw [if_pos y] at h
        cases q : G.atI z.cps.toList i with
        | none => rw [q] at h; cases h
        | some c =>
          rw [q] at h
          cases h
          exact .inr (.inr ⟨z, i, c, rfl, rfl, L ▸ y, by rw [← atI_eq]; exact q, k _ _ _ _ (new_str s)⟩)
      · rw [if_neg y] at h; cases h
    | _ => cases h
  | _ => cases h
theorem cut_eq (n d : Nat) (o : Option Int) : cutAt n d o = HT.sIx n d o := by
  cases o with
  | none => rfl
  | some v => rfl
theorem RpL.cut {vs : List V} {l : List D} (r : RpL Γ B vs l) (lo hi : Option Int) : RpL Γ B (cutV vs lo hi) (cutL l lo hi) := by
  unfold cutV cutL
  rw [cut_eq, cut_eq, r.len]
  exact (r.drop _).take _
def rSlAll (K : PySem.W.Frag) : V → Option Int → Option Int → Hp → VK → Prop := fun x lo hi H Q => rSlL K x lo hi H Q ∨ rSlT K x lo hi H Q ∨ rSlS x lo hi H Q
theorem sl_all : SlR X (rSlAll X.K) := sl_list.or (sl_tup.or sl_str)
theorem d_slice {B H : Hp} {x : V} {d : D} {lo hi : Option Int} {t : T} {Q : VK} (s : Sub B H) (rx : Rp Γ B x d) (h : fSlice d lo hi = some t) (k : ∀ v H' B' G, NewV Γ B H t v H' B' G → Q v H') : rSlAll Γ.K x lo hi H Q := by
  have L : line = sizeLine := by decide
  cases rx with
  | @lst a vs l ha rl => cases h; exact .inl ⟨a, vs, rfl, SqL.of (s _ _ ha), fun p hp => k _ _ _ _ (new_lst s hp (rl.cut lo hi))⟩
  | @rol a vs l ha rl => cases h; exact .inl ⟨a, vs, rfl, s.sl ha, fun p hp => k _ _ _ _ (new_lst s hp (rl.cut lo hi))⟩
  | @tup a vs l ha rl =>
    have h : (if cutAt l.length 0 lo = 0 ∧ cutAt l.length l.length hi = l.length then none else some (T.imm (.tup (cutL l lo hi)))) = some t := h
    by_cases z : cutAt l.length 0 lo = 0 ∧ cutAt l.length l.length hi = l.length
    · rw [if_pos z] at h; cases h
    · rw [if_neg z] at h
      cases h
      rw [cut_eq, cut_eq, ← rl.len] at z
      exact .inr (.inl ⟨a, vs, rfl, s.st ha, z, fun p hp => k _ _ _ _ (NewV.obj s hp (.tup (SqT.of upd_same) ((rl.cut lo hi).mono Γ (Sub.new (s.none hp)))))⟩)
  | str z =>
    have h : (if z.length ≤ line then some (T.imm (.str ⟨(cutL z.cps.toList lo hi).toArray⟩)) else none) = some t := h
    by_cases y : z.length ≤ line
    · rw [if_pos y] at h
      cases h
      refine .inr (.inr ⟨z, rfl, L ▸ y, ?_⟩)
      have e : cutS z lo hi = ⟨(cutL z.cps.toList lo hi).toArray⟩ := by
        unfold cutS cutL
        rw [cut_eq, cut_eq]
        rfl
      rw [e]
      exact k _ _ _ _ (new_str s)
    · rw [if_neg y] at h; cases h
  | _ => cases h
section
variable {W : L2.WX} {a b : Expr} {lo hi : Option Expr} {ma mb : Sm T} {ml mh : So} {p2 pos : Pos} {σ : L2.St}
variable (Γ) in
def tOm (W : L2.WX) (m : So) : TO := fun σ H Q => ∃ B st F, Stt Γ B H σ st F ∧ RunP (m st) (fun o st' => ∀ H' B' F', PostS Γ B H F σ st' H' B' F' → Q o H') (OutX Γ W B H F σ)
theorem PO.weak {t t' : TO} (h : PO X lo t) (k : ∀ σ H Q, t' σ H Q → t σ H Q) : PO X lo t' := ⟨fun pins s σ H Q I q => h.run pins s σ H Q I (k σ H Q q)⟩
theorem go_none : PO X none (tOm Γ W oNone) := PO.weak po_none fun σ H Q h => by
  obtain ⟨B, st, F, S, h⟩ := h
  exact h H B F (PostS.refl S)
theorem go_some (h : PE X a (tSm Γ W ma)) : PO X (some a) (tOm Γ W (oSome ma)) := PO.weak (po_some h) fun σ H Q h => by
  obtain ⟨B, st, F, S, h⟩ := h
  unfold oSome Sm.bind at h
  rw [run_bind] at h
  refine ⟨B, st, F, S, h.mono (fun t st1 q v H1 B1 G1 F1 p => ?_) fun _ _ q => q⟩
  obtain ⟨B2, r, p'⟩ := p.frz
  cases e : t.toD with
  | int i =>
    rw [e] at q r
    cases r
    exact ⟨i, rfl, q H1 B2 F1 p'⟩
  | _ => rw [e] at q; exact q.elim
theorem ge_slice (hK : X.K = Γ.K) (ha : PE X a (tSm Γ W ma)) (hl : PO X lo (tOm Γ W ml)) (hh : PO X hi (tOm Γ W mh)) : PE X (.Subscript a (.Slice lo hi none p2) pos) (tSm Γ W (sSlice ma ml mh)) :=
  PE.weak (pe_slice sl_all ha hl hh) fun σ H Q h => by
    rw [hK]
    refine e_then (k := fun d => Sm.bind ml fun l => Sm.bind mh fun h => Sm.ofO (fSlice d l h)) (K := WantV (Γ := Γ) Q σ) rfl (fun p => WantV.after p) h fun x d B1 H1 st1 F1 rx S1 h1 => ?_
    unfold Sm.bind at h1
    rw [run_bind] at h1
    refine ⟨B1, st1, F1, S1, h1.mono (fun o st2 q H2 B2 F2 p2 => ?_) fun _ _ q => q⟩
    rw [run_bind] at q
    refine ⟨B2, st2, F2, p2.s, q.mono (fun o2 st3 q H3 B3 F3 p3 => ?_) fun _ _ => OutX.after p2⟩
    obtain ⟨t, ht, q⟩ := run_ofO q
    exact d_slice p3.s.ex (rx.mono Γ (p2.u.b.trans p3.u.b)) ht fun v H' B' G n => q v H' B' G F3 (n.post (p2.trans p3))
end

/-! ### built-ins -/
theorem CallR.or {f : Value} {r r' : List V → Hp → VK → Prop} (h : CallR X f r) (h' : CallR X f r') : CallR X f (fun xs H Q => r xs H Q ∨ r' xs H Q) := fun pins s σ H xs us Q I rs q =>
  q.elim (h pins s σ H xs us Q I rs) (h' pins s σ H xs us Q I rs)
def rLenAll (K : PySem.W.Frag) : List V → Hp → VK → Prop := fun xs H Q => (∃ p ys, xs = [.ref p] ∧ (SqL K H p ys ∨ SqT K H p ys) ∧ Q (.int ys.length) H) ∨ (∃ z, xs = [.str z] ∧ z.length ≤ sizeLine ∧ Q (.int z.length) H)
theorem c_len : CallR X (.builtin "len") (rLenAll X.K) := CallR.or call_len_seq call_len_str
theorem k_len : CallD Γ (rLenAll Γ.K) bLen := fun {B H x d t Q} s r h k => by
  have L : line = sizeLine := by decide
  match d, r, h with
  | [_], .cons r .nil, h =>
    cases r with
    | lst ha rl => cases h; exact .inl ⟨_, _, rfl, .inl (SqL.of (s _ _ ha)), by rw [rl.len]; exact k _ _ _ _ (new_int s)⟩
    | rol ha rl => cases h; exact .inl ⟨_, _, rfl, .inl (s.sl ha), by rw [rl.len]; exact k _ _ _ _ (new_int s)⟩
    | tup ha rl => cases h; exact .inl ⟨_, _, rfl, .inr (s.st ha), by rw [rl.len]; exact k _ _ _ _ (new_int s)⟩
    | str z =>
      have h : (if z.length ≤ line then some (T.imm (.int z.length)) else none) = some t := h
      by_cases y : z.length ≤ line
      · rw [if_pos y] at h
        cases h
        exact .inr ⟨z, rfl, L ▸ y, k _ _ _ _ (new_int s)⟩
      · rw [if_neg y] at h; cases h
    | _ => cases h
theorem k_abs : CallD Γ (fun xs H Q => ∃ i, xs = [.int i] ∧ Q (.int (if i < 0 then -i else i)) H) bAbs := fun {B H x d t Q} s r h k => by
  match d, r, h with
  | [.int i], .cons (.int _) .nil, h => cases h; exact ⟨i, rfl, k _ _ _ _ (new_int s)⟩
theorem k_max2 : CallD Γ (fun xs H Q => ∃ i j, xs = [.int i, .int j] ∧ Q (.int (if j > i then j else i)) H) bMax2 := fun {B H x d t Q} s r h k => by
  match d, r, h with
  | [.int i, .int j], .cons (.int _) (.cons (.int _) .nil), h => cases h; exact ⟨i, j, rfl, k _ _ _ _ (new_int s)⟩
theorem k_min2 : CallD Γ (fun xs H Q => ∃ i j, xs = [.int i, .int j] ∧ Q (.int (if j < i then j else i)) H) bMin2 := fun {B H x d t Q} s r h k => by
  match d, r, h with
  | [.int i, .int j], .cons (.int _) (.cons (.int _) .nil), h => cases h; exact ⟨i, j, rfl, k _ _ _ _ (new_int s)⟩
theorem k_int : CallD Γ (fun xs H Q => (∃ i, xs = [.int i] ∧ Q (.int i) H) ∨ ∃ k, xs = [.bl k] ∧ Q (.int (if k then 1 else 0)) H) bInt := fun {B H x d t Q} s r h k => by
  match d, r, h with
  | [.int i], .cons (.int _) .nil, h => cases h; exact .inl ⟨i, rfl, k _ _ _ _ (new_int s)⟩
  | [.bl i], .cons (.bl _) .nil, h => cases h; exact .inr ⟨i, rfl, k _ _ _ _ (new_int s)⟩
theorem k_str : CallD Γ (fun xs H Q => ∃ i, xs = [.int i] ∧ i.natAbs.log2 < 1920 ∧ Q (.str (toString i)) H) bStr := fun {B H x d t Q} s r h k => by
  match d, r, h with
  | [.int i], .cons (.int _) .nil, h =>
    have h : (if bits i < 1920 then some (T.imm (.str (toString i))) else none) = some t := h
    by_cases y : bits i < 1920
    · rw [if_pos y] at h
      cases h
      exact ⟨i, rfl, y, k _ _ _ _ (new_str s)⟩
    · rw [if_neg y] at h; cases h
theorem k_sum : CallD Γ (rSum Γ.K) bSum := fun {B H x d t Q} s r h k => by
  match d, r, h with
  | [.lst l], .cons (.lst ha rl) .nil, h =>
    have h : (allI l).map (fun ns => T.imm (.int ns.sum)) = some t := h
    cases q : allI l with
    | none => rw [q] at h; cases h
    | some ns =>
      rw [q] at h
      cases h
      have e := rl.allI q
      exact ⟨_, ns, rfl, SqL.of (e ▸ s _ _ ha), k _ _ _ _ (new_int s)⟩
theorem fold_max : ∀ (ns : List Int) (n : Int), (ns.foldl (fun m k => if k > m then k else m) n) ∈ n :: ns ∧ ∀ y ∈ n :: ns, y ≤ ns.foldl (fun m k => if k > m then k else m) n
  | [], n => ⟨List.mem_singleton.mpr rfl, fun y m => by rw [List.mem_singleton.mp m]; exact Int.le_refl _⟩
  | k :: ns, n => by
    have ih := fold_max ns (if k > n then k else n)
    refine ⟨?_, fun y m => ?_⟩
    · rw [List.foldl_cons]
      rcases List.mem_cons.mp ih.1 with e | m
      · rw [e]
        by_cases z : k > n
        · rw [if_pos z]; exact List.mem_cons_of_mem _ List.mem_cons_self
        · rw [if_neg z]; exact List.mem_cons_self
      · exact List.mem_cons_of_mem _ (List.mem_cons_of_mem _ m)
    · rw [List.foldl_cons]
      have h0 := ih.2 _ List.mem_cons_self
      rcases List.mem_cons.mp m with rfl | m
      · refine Int.le_trans ?_ h0
        by_cases z : k > y
        · rw [if_pos z]; omega
        · rw [if_neg z]; omega
      · rcases List.mem_cons.mp m with rfl | m
        · refine Int.le_trans ?_ h0
          by_cases z : y > n
          · rw [if_pos z]; omega
          · rw [if_neg z]; omega
        · exact ih.2 y (List.mem_cons_of_mem _ m)
theorem fold_min : ∀ (ns : List Int) (n : Int), (ns.foldl (fun m k => if k < m then k else m) n) ∈ n :: ns ∧ ∀ y ∈ n :: ns, ns.foldl (fun m k => if k < m then k else m) n ≤ y
  | [], n => ⟨List.mem_singleton.mpr rfl, fun y m => by rw [List.mem_singleton.mp m]; exact Int.le_refl _⟩
  | k :: ns, n => by
    have ih := fold_min ns (if k < n then k else n)
    refine ⟨?_, fun y m => ?_⟩
    · rw [List.foldl_cons]
      rcases List.mem_cons.mp ih.1 with e | m
      · rw [e]
        by_cases z : k < n
        · rw [if_pos z]; exact List.mem_cons_of_mem _ List.mem_cons_self
        · rw [if_neg z]; exact List.mem_cons_self
      · exact List.mem_cons_of_mem _ (List.mem_cons_of_mem _ m)
    · rw [List.foldl_cons]
      have h0 := ih.2 _ List.mem_cons_self
      rcases List.mem_cons.mp m with rfl | m
      · refine Int.le_trans h0 ?_
        by_cases z : k < y
        · rw [if_pos z]; omega
        · rw [if_neg z]; omega
      · rcases List.mem_cons.mp m with rfl | m
        · refine Int.le_trans h0 ?_
          by_cases z : y < n
          · rw [if_pos z]; omega
          · rw [if_neg z]; omega
        · exact ih.2 y (List.mem_cons_of_mem _ m)
theorem k_maxL : CallD Γ (rMax Γ.K) bMaxL := fun {B H x d t Q} s r h k => by
  match d, r, h with
  | [.lst l], .cons (.lst ha rl) .nil, h =>
    cases q : allI l with
    | none =>
      have h : (match allI l with
        | some (n :: ns) => some1 (.int (ns.foldl (fun m k => if k > m then k else m) n))
        | _ => none) = some t := h
      rw [q] at h; cases h
    | some ns =>
      have h : (match allI l with
        | some (n :: ns) => some1 (.int (ns.foldl (fun m k => if k > m then k else m) n))
        | _ => none) = some t := h
      rw [q] at h
      match ns, h, q with
      | n :: ns, h, q =>
        cases h
        have e := rl.allI q
        refine ⟨_, n :: ns, rfl, SqL.of (e ▸ s _ _ ha), Nat.succ_pos _, fun m hm hl => ?_⟩
        have f := fold_max ns n
        have e2 : m = ns.foldl (fun m k => if k > m then k else m) n := Int.le_antisymm (f.2 m hm) (hl _ f.1)
        rw [e2]
        exact k _ _ _ _ (new_int s)
theorem k_minL : CallD Γ (rMin Γ.K) bMinL := fun {B H x d t Q} s r h k => by
  match d, r, h with
  | [.lst l], .cons (.lst ha rl) .nil, h =>
    cases q : allI l with
    | none =>
      have h : (match allI l with
        | some (n :: ns) => some1 (.int (ns.foldl (fun m k => if k < m then k else m) n))
        | _ => none) = some t := h
      rw [q] at h; cases h
    | some ns =>
      have h : (match allI l with
        | some (n :: ns) => some1 (.int (ns.foldl (fun m k => if k < m then k else m) n))
        | _ => none) = some t := h
      rw [q] at h
      match ns, h, q with
      | n :: ns, h, q =>
        cases h
        have e := rl.allI q
        refine ⟨_, n :: ns, rfl, SqL.of (e ▸ s _ _ ha), Nat.succ_pos _, fun m hm hl => ?_⟩
        have f := fold_min ns n
        have e2 : m = ns.foldl (fun m k => if k < m then k else m) n := Int.le_antisymm (hl _ f.1) (f.2 m hm)
        rw [e2]
        exact k _ _ _ _ (new_int s)
theorem k_list : CallD Γ (fun xs H Q => ∃ p ys, xs = [.ref p] ∧ (SqL Γ.K H p ys ∨ SqT Γ.K H p ys) ∧ ∀ l, H l = none → Q (.ref l) (upd H l (.lst ys))) bList := fun {B H x d t Q} s r h k => by
  match d, r, h with
  | [_], .cons r .nil, h =>
    cases r with
    | lst ha rl => cases h; exact ⟨_, _, rfl, .inl (SqL.of (s _ _ ha)), fun p hp => k _ _ _ _ (new_lst s hp rl)⟩
    | rol ha rl => cases h; exact ⟨_, _, rfl, .inl (s.sl ha), fun p hp => k _ _ _ _ (new_lst s hp rl)⟩
    | tup ha rl => cases h; exact ⟨_, _, rfl, .inr (s.st ha), fun p hp => k _ _ _ _ (new_lst s hp rl)⟩
    | _ => cases h
  | e :: _ :: _, r, h => cases e <;> cases h
theorem k_tuple : CallD Γ (fun xs H Q => ∃ p ys, xs = [.ref p] ∧ ((SqL Γ.K H p ys ∧ ∀ l, H l = none → Q (.ref l) (upd H l (.tup ys))) ∨ (SqT Γ.K H p ys ∧ Q (.ref p) H))) bTuple := fun {B H x d t Q} s r h k => by
  match d, r, h with
  | [_], .cons r .nil, h =>
    cases r with
    | lst ha rl => cases h; exact ⟨_, _, rfl, .inl ⟨SqL.of (s _ _ ha), fun p hp => k _ _ _ _ (NewV.obj s hp (.tup (SqT.of upd_same) (rl.mono Γ (Sub.new (s.none hp)))))⟩⟩
    | tup ha rl => cases h; exact ⟨_, _, rfl, .inr ⟨s.st ha, k _ _ _ _ (NewV.imm s (.tup ha rl))⟩⟩
    | _ => cases h
  | e :: _ :: _, r, h => cases e <;> cases h
def Ki.nm : Ki → String
  | .int => "int" | .bl => "bool" | .str => "str" | .tup => "tuple" | .lst => "list"
theorem d_isi {n : Ki} : UnD Γ (fun x H Q => rIsi Γ.K [x, .ty n.nm] H Q) (fIsi n) := fun {B H x d t Q} s r h k => by
  have go : ∀ {a : String} {b : Bool}, TyX Γ.K H x (.type a) → kitB a n.nm = some b → Q (.bl b) H → rIsi Γ.K [x, .ty n.nm] H Q := fun ty h q => ⟨x, .ty n.nm, _, _, _, rfl, .ty _, ty, kit_ty h, q⟩
  cases r with
  | non => cases h; exact go (.base .non) (by cases n <;> decide +kernel) (k _ _ _ _ (new_bl s))
  | bl b => cases h; exact go (.base (.bl b)) (by cases n <;> decide +kernel) (k _ _ _ _ (new_bl s))
  | int b => cases h; exact go (.base (.int b)) (by cases n <;> decide +kernel) (k _ _ _ _ (new_bl s))
  | str b => cases h; exact go (.base (.str b)) (by cases n <;> decide +kernel) (k _ _ _ _ (new_bl s))
  | @tup a vs l ha rl =>
    cases h
    refine go (a := "tuple") ?_ (by cases n <;> decide +kernel) (k _ _ _ _ (new_bl s))
    rcases s.st ha with (h | ⟨o, h⟩) | ⟨o, its, m, h1, h2, _⟩
    · exact .base (.tup h)
    · exact .fTuple h
    · exact .kTuple h1 h2
  | @lst a vs l ha rl => cases h; exact go (.base (.lst (s _ _ ha))) (by cases n <;> decide +kernel) (k _ _ _ _ (new_bl s))
  | _ => cases h
section
variable {W : L2.WX} {a : Expr} {ma mb : Sm T} {p p2 p3 pos pos2 : Pos}
theorem ge_isi (n : Ki) {c : Str} (hK : X.K = Γ.K) (ha : PE X a (tSm Γ W ma)) (hg : Gl X "isinstance") (hm : X.mg "isinstance" = none) (hg2 : Gl X c) (hm2 : X.mg c = none) (hv2 : bootBuiltins c = some (.type n.nm)) (hn : c ≠ "__name__" := by decide) (hd : (c == ("__debug__" : Str)) = false := by decide)
    (hs : starEach [a, .Name c p2] X.env = (false, eval a X.env) :: starEach [.Name c p2] X.env := by rfl) (hs2 : starEach [.Name c p2] X.env = (false, eval (.Name c p2) X.env) :: starEach [] X.env := by rfl) (hpl : (backTo pos (starEach [.Name c p2] X.env)).any (·.1) = false := by rfl) :
    PE X (.Call (.Name "isinstance" p) [a, .Name c p2] [] pos) (tSm Γ W (sUn (fIsi n) ma)) :=
  PE.weak (pe_callB call_isi hg hm (by decide +kernel) (pa_cons ha (pa_cons (pe_bltn (v := .ty n.nm) hg2 hm2 hv2 rfl hn hd) pa_nil hs2) hs) (by decide) (by decide) hs hpl) fun σ H Q h => by
    rw [hK]
    exact e_un d_isi h
theorem ge_listRev (hK : X.K = Γ.K) (hc : X.calm = true) (hg : Gl X "list") (hm : X.mg "list" = none) (hg2 : Gl X "reversed") (hm2 : X.mg "reversed" = none) (ha : PE X a (tSm Γ W ma))
    (hs : starEach [a] X.env = (false, eval a X.env) :: starEach [] X.env := by rfl)
    (hs2 : starEach [.Call (.Name "reversed" p2) [a] [] pos2] X.env = (false, eval (.Call (.Name "reversed" p2) [a] [] pos2) X.env) :: starEach [] X.env := by rfl) :
    PE X (.Call (.Name "list" p) [.Call (.Name "reversed" p2) [a] [] pos2] [] pos) (tSm Γ W (sUn fRev ma)) := PE.weak (GT.pe_listRevA hc hg hm hg2 hm2 ha hs hs2) fun σ H Q h => by
  rw [hK]
  refine e_un (r := fun v H1 Q => ∃ (a : Addr) (xs : List V), v = .ref a ∧ (SqL Γ.K H1 a xs ∨ SqT Γ.K H1 a xs) ∧ ∀ q, H1 q = none → Q (.ref q) (upd H1 q (.lst xs.reverse))) (fun {B H x d t Q} s r h k => ?_) h
  cases r with
  | @lst a vs l ha rl => cases h; exact ⟨a, vs, rfl, .inl (SqL.of (s _ _ ha)), fun p hp => k _ _ _ _ (new_lst s hp rl.rev)⟩
  | @tup a vs l ha rl => cases h; exact ⟨a, vs, rfl, .inr (s.st ha), fun p hp => k _ _ _ _ (new_lst s hp rl.rev)⟩
  | @rol a vs l ha rl => cases h; exact ⟨a, vs, rfl, .inl (s.sl ha), fun p hp => k _ _ _ _ (new_lst s hp rl.rev)⟩
  | _ => cases h
variable (Γ) in
def St1D (r : V → List V → Hp → VK → Prop) (f : Str → D → Option T) : Prop := ∀ {B H : Hp} {s : Str} {y : V} {e : D} {t : T} {Q : VK}, Sub B H → Rp Γ B y e → f s e = some t → (∀ v H' B' G, NewV Γ B H t v H' B' G → Q v H') → r (.str s) [y] H Q
theorem ge_str1 {o : Expr} {apos : Pos} {id : String} {name : Str} {r : V → List V → Hp → VK → Prop} {f : Str → D → Option T} (slot : Slot "str" name id) (ty : typeOf (.builtin id) = pure (.type "method_descriptor")) (rule : MtR X id r) (hd : St1D Γ r f) (ho : PE X o (tSm Γ W ma)) (he : PE X a (tSm Γ W mb)) (hs : starEach [a] X.env = [(false, eval a X.env)] := by rfl) (hbase : attributeBase o name X.env (eval o X.env) = eval o X.env := by rfl) (hline : (apos.endLine == pos.line) = true := by rfl) :
    PE X (.Call (.Attribute o name apos) [a] [] pos) (tSm Γ W (sStr1 f ma mb)) := PE.weak (pe_m1 slot ty rule ho he hs hbase hline) fun σ H Q h => by
  refine e_then (k := fun d => match d with
    | .str s => Sm.bind mb fun y => Sm.ofO (f s y.toD)
    | _ => fun _ => .no) (K := WantV (Γ := Γ) Q σ) rfl (fun p => WantV.after p) h fun x d B1 H1 st1 F1 rx S1 h1 => ?_
  cases rx with
  | str s =>
    refine ⟨⟨s, rfl⟩, e_then (k := fun e => Sm.ofO (f s e)) (K := WantV (Γ := Γ) Q _) rfl (fun p => WantV.after p) ⟨B1, st1, F1, S1, h1⟩ fun y e B2 H2 st2 F2 ry S2 h2 => ?_⟩
    obtain ⟨t, ht, q⟩ := run_ofO h2
    exact hd S2.ex ry ht fun v H' B' G n => q v H' B' G F2 (n.post (PostS.refl S2))
  | _ => exact h1.elim
theorem s_join : St1D Γ (fun x xs H Q => ∃ a p, ∃ ys : List Str, x = .str a ∧ xs = [.ref p] ∧ (SqL Γ.K H p (ys.map V.str) ∨ SqT Γ.K H p (ys.map V.str)) ∧ (ys.map (·.length)).sum + ys.length * a.length ≤ 16777216 ∧ Q (.str (Txt.join a ys)) H) fJoin := fun {B H a y e t Q} s ry h k => by
  cases ry with
  | @lst p vs l hp rl =>
    have h : (match allS l with
      | some ys => if (ys.map (·.length)).sum + ys.length * a.length ≤ line then some1 (.str (Txt.join a ys)) else none
      | none => none) = some t := h
    cases q : allS l with
    | none => rw [q] at h; cases h
    | some ys =>
      rw [q] at h
      simp only at h
      by_cases z : (ys.map (·.length)).sum + ys.length * a.length ≤ line
      · rw [if_pos z] at h
        cases h
        have e := rl.allS q
        exact ⟨a, p, ys, rfl, rfl, .inl (SqL.of (e ▸ s _ _ hp)), z, k _ _ _ _ (new_str s)⟩
      · rw [if_neg z] at h; cases h
  | _ => cases h
theorem m_join (hK : X.K = Γ.K) : MtR X "str.join" (fun x xs H Q => ∃ a p, ∃ ys : List Str, x = .str a ∧ xs = [.ref p] ∧ (SqL Γ.K H p (ys.map V.str) ∨ SqT Γ.K H p (ys.map V.str)) ∧ (ys.map (·.length)).sum + ys.length * a.length ≤ 16777216 ∧ Q (.str (Txt.join a ys)) H) := by
  rw [← hK]
  exact mt_join
end
end
end G
set_option Elab.async false
set_option linter.all false
set_option maxRecDepth 100000
/-! sorted(whole numbers) -/
namespace G
open PySem PySem.Spec PyProof.Rows L2
theorem ins_perm (x : Int) : ∀ l : List Int, (ins x l).Perm (x :: l)
  | [] => .refl _
  | y :: r => by
    unfold ins
    split
    · exact .refl _
    · exact ((ins_perm x r).cons y).trans (.swap x y r)
theorem srt_perm : ∀ l : List Int, (srt l).Perm l
  | [] => .refl _
  | x :: r => (ins_perm x (srt r)).trans ((srt_perm r).cons x)
theorem ins_pw (x : Int) : ∀ l : List Int, l.Pairwise (· ≤ ·) → (ins x l).Pairwise (· ≤ ·)
  | [], _ => by simp [ins]
  | y :: r, h => by
    have h' := List.pairwise_cons.mp h
    unfold ins
    split
    · next q =>
      refine List.pairwise_cons.mpr ⟨fun z hz => ?_, h⟩
      rcases List.mem_cons.mp hz with e | m
      · rw [e]; exact q
      · exact Int.le_trans q (h'.1 z m)
    · next q =>
      refine List.pairwise_cons.mpr ⟨fun z hz => ?_, ins_pw x r h'.2⟩
      rcases List.mem_cons.mp ((ins_perm x r).mem_iff.mp hz) with e | m
      · rw [e]; omega
      · exact h'.1 z m
theorem srt_pw : ∀ l : List Int, (srt l).Pairwise (· ≤ ·)
  | [] => .nil
  | x :: r => ins_pw x _ (srt_pw r)
theorem srt_of {l l' : List Int} (p : l'.Perm l) (h : l'.Pairwise (· ≤ ·)) : l' = srt l :=
  List.Perm.eq_of_pairwise (fun a b _ _ h1 h2 => Int.le_antisymm h1 h2) h (srt_pw l) (p.trans (srt_perm l).symm)
section
variable {Γ : Wh}
theorem RpL.ofIntsQ {B : Hp} : ∀ ns : List Int, RpL Γ B (ns.map V.int) (ns.map D.int)
  | [] => .nil
  | n :: ns => .cons (.int n) (RpL.ofIntsQ ns)
theorem k_sorted : CallD Γ (rSortedI Γ.K) bSorted := fun {B H x d t Q} s r h k => by
  match d, r, h with
  | [.lst l], .cons (.lst ha rl) .nil, h =>
    have h : (allI l).map (fun ns => T.lst (ims ((srt ns).map D.int))) = some t := h
    cases q : allI l with
    | none => rw [q] at h; cases h
    | some ns =>
      rw [q] at h
      cases h
      have e := rl.allI q
      refine ⟨_, ns, rfl, SqL.of (e ▸ s _ _ ha), fun ns' p hp hw hn => ?_⟩
      rw [srt_of hp hw]
      exact k _ _ _ _ (new_lst s hn (RpL.ofIntsQ (srt ns)))
  | [.rol l], .cons (.rol ha rl) .nil, h =>
    have h : (allI l).map (fun ns => T.lst (ims ((srt ns).map D.int))) = some t := h
    cases q : allI l with
    | none => rw [q] at h; cases h
    | some ns =>
      rw [q] at h
      cases h
      have e := rl.allI q
      refine ⟨_, ns, rfl, e ▸ s.sl ha, fun ns' p hp hw hn => ?_⟩
      rw [srt_of hp hw]
      exact k _ _ _ _ (new_lst s hn (RpL.ofIntsQ (srt ns)))
end
end G
set_option Elab.async false
set_option linter.all false
set_option maxRecDepth 100000
/-! The end: from a pure theorem about the law's combinators to the row. -/
namespace G
open PySem PySem.Spec PyProof.Rows L2
section
variable {Γ : Wh} {X : Cx} {B H : Hp} {σ : L2.St} {W : L2.WX}
theorem hu65 {k : Nat} {A : Around} (hr : Room k A) : A.units + 65 < cLine := by have := hr.un; omega
theorem i_add : IpD Γ (ipI fun i j => i + j) fAddI := fun {B H x y d e t Q} s rx ry h k => by
  cases rx with
  | int i => cases ry with
    | int j => cases h; exact ⟨i, j, rfl, rfl, k _ _ _ _ (new_int s)⟩
    | _ => cases h
  | _ => cases h
theorem cx_no {P : Program} {w : World} {H : Hp} {s : Shared} {e : Value} {s' : Shared} (h : L2.CX P w [] H s (fun _ _ _ => False) e s') : False := by
  obtain ⟨_, _, _, _, _, _, _, _, _, _, _, _, z⟩ := h
  exact z.elim
/-- the script as data -/
def script (ns : List Int) : D := .rol (ns.map D.int)
theorem RpL.ofInts : ∀ ns : List Int, RpL Γ B (ns.map V.int) (ns.map D.int)
  | [] => .nil
  | n :: ns => .cons (.int n) (RpL.ofInts ns)
/-- what is wanted of the law's own combinators -/
def True' (f : Fn) (ns : List Int) : Prop := ∃ ps, f [.imm (script ns)] = .ret (.imm (.bl true)) ps
theorem sp_end {K : PySem.W.Frag} {cl xc : Nat → Addr} {f : Fn} {a : Addr} {ns : List Int} (hl : ns.length ≤ 63) (hb : ∀ z ∈ ns, Builtin.Int.intBits z ≤ 1048576) (hS : SqL K H a (ns.map V.int)) (h : True' f ns) :
    spOf ⟨K, cl, xc⟩ f [.ref a] H (fun v _ => v = .bl true) fun _ _ _ => False := by
  obtain ⟨ps, h⟩ := h
  have o : Ow ⟨K, cl, xc⟩ H H (.ref a) (.imm (script ns)) [] := .imm (.rol hS (RpL.ofInts ns))
  refine ⟨H, [.imm (script ns)], [], ⟨Sub.refl H, ?_, .nil, fun _ m => nomatch m⟩, ?_⟩
  · have := Sl.cons o (Sl.nil (Γ := ⟨K, cl, xc⟩) (B := H) (H := H))
    simpa using this
  · rw [h]
    intro v H' B' G F' p
    cases p.o with
    | imm r => cases r; rfl
/-- a op b op' c -/
theorem e_chain {r r' : R2} {f g : D → D → Option T} {ma mb mc : Sm T} (hd : OpD Γ r f) (hd' : OpD Γ r' g) {Q : VK} (h : tSm Γ W (sChain f g ma mb mc) σ H Q) : tChain r r' (tSm Γ W ma) (tSm Γ W mb) (tSm Γ W mc) σ H Q := by
  obtain ⟨B, st, F, S, h⟩ := h
  unfold sChain Sm.bind at h
  rw [run_bind] at h
  refine ⟨B, st, F, S, h.mono (fun t1 st1 q v1 H1 B1 G1 F1 P1 => ?_) fun _ _ q => q⟩
  obtain ⟨B1', r1, p1⟩ := P1.frz
  rw [run_bind] at q
  refine ⟨B1', st1, F1, p1.s, q.mono (fun t2 st2 q v2 H2 B2 G2 F2 P2 => ?_) fun _ _ => OutX.after p1⟩
  obtain ⟨B2', r2, p2⟩ := P2.frz
  cases e : f t1.toD t2.toD with
  | none => rw [e] at q; exact q.elim
  | some t =>
    rw [e] at q
    cases t with
    | imm d =>
      cases d with
      | bl b =>
        refine hd p2.s.ex (r1.mono Γ p2.u.b) r2 e fun v H' B' G n => ?_
        have pv := n.post (PostS.refl p2.s)
        have ps := pv.drop
        cases pv.o with
        | imm rv =>
          cases rv
          refine ⟨b, rfl, ?_⟩
          cases b with
          | false => exact q _ _ _ _ _ (pv.after (p1.trans p2))
          | true =>
            have q : RunP ((mc st2).bind fun z => Sm.ofO (g t2.toD z.toD)) _ _ := q
            rw [run_bind] at q
            refine ⟨B', st2, F2, ps.s, q.mono (fun t3 st3 q v3 H3 B3 G3 F3 P3 => ?_) fun _ _ => OutX.after ((p1.trans p2).trans ps)⟩
            obtain ⟨B3', r3, p3⟩ := P3.frz
            obtain ⟨t, ht, q⟩ := run_ofO q
            exact hd' p3.s.ex (r2.mono Γ (ps.u.b.trans p3.u.b)) r3 ht fun v H' B' G n => q v H' B' G F3 (n.post (((p1.trans p2).trans ps).trans p3))
      | _ => exact q.elim
    | _ => exact q.elim
section
variable {a b c : Expr} {pos : Pos} {op op' : CmpOp} {r r' : R2} {f g : D → D → Option T} {ma mb mc : Sm T}
theorem ge_chain (ho : OpR X (compareOp op) r) (hd : OpD Γ r f) (ho' : OpR X (compareOp op') r') (hd' : OpD Γ r' g) (ha : PE X a (tSm Γ W ma)) (hb : PE X b (tSm Γ W mb)) (hc : PE X c (tSm Γ W mc))
    (hm : lastMarks [op, op'] [b, c] = false := by with_unfolding_all rfl) : PE X (.Compare a [op, op'] [b, c] pos) (tSm Γ W (sChain f g ma mb mc)) := PE.weak (pe_chain ho ho' ha hb hc hm) fun _ _ _ => e_chain hd hd'
theorem gt_chain (ho : OpR X (compareOp op) r) (hd : OpD Γ r f) (ho' : OpR X (compareOp op') r') (hd' : OpD Γ r' g) (ha : PE X a (tSm Γ W ma)) (hb : PE X b (tSm Γ W mb)) (hc : PE X c (tSm Γ W mc))
    (hm : lastMarks [op, op'] [b, c] = false := by with_unfolding_all rfl) : PT X (.Compare a [op, op'] [b, c] pos) (tBm Γ W (sTest (sChain f g ma mb mc))) := PT.weak (pt_chain ho ho' ha hb hc hm) fun _ _ _ => e_test fun _ _ _ => e_chain hd hd'
end
end
end G
set_option Elab.async false
set_option linter.all false
/-! What a run of the combinators reaches, by continuations: a simp set that goes from left to right. -/
namespace G
open PySem

structure Tg {α : Sort u} (k : α) : Type where
def Run {α : Type} (m : Sm α) (st : St) (K : α → St → Prop) (E : X → St → Prop) : Prop := match m st with
  | .no => False
  | .ok a s => K a s
  | .ex x s => E x s
abbrev KF := T → List (Option T) → Prop
abbrev EF := X → List (Option T) → Prop
def RunF (f : Fn) (ts : List T) (K : KF) (E : EF) (_ : Tg (K, E)) : Prop := match f ts with
  | .no => False
  | .ret t ps => K t ps
  | .ex x ps => E x ps
theorem RunF.of_eq {f : Fn} {ts : List T} {t : T} {ps : List (Option T)} {K : KF} {E : EF} {g} (h : f ts = .ret t ps) : RunF f ts K E g = K t ps := by
  unfold RunF; rw [h]
theorem RunF.eq {f : Fn} {ts : List T} {K : KF} {g} (h : RunF f ts K (fun _ _ => False) g) : ∃ t ps, f ts = .ret t ps ∧ K t ps := by
  unfold RunF at h
  cases e : f ts with
  | no => rw [e] at h; exact h.elim
  | ret t ps => rw [e] at h; exact ⟨t, ps, rfl, h⟩
  | ex x ps => rw [e] at h; exact h.elim
theorem RunF.mono {f : Fn} {ts : List T} {K K' : KF} {E E' : EF} {g g'} (h : RunF f ts K E g) (k : ∀ t ps, K t ps → K' t ps) (e : ∀ x ps, E x ps → E' x ps) : RunF f ts K' E' g' := by
  unfold RunF at h ⊢
  cases e1 : f ts with
  | no => rw [e1] at h; exact h.elim
  | ret t ps => rw [e1] at h; exact k _ _ h
  | ex x ps => rw [e1] at h; exact e _ _ h
/-- with no exception -/
theorem RunF.then {f : Fn} {ts : List T} {K K' : KF} {E : EF} {g g'} (h : RunF f ts K (fun _ _ => False) g) (k : ∀ t ps, K t ps → K' t ps) : RunF f ts K' E g' := h.mono k fun _ _ z => z.elim
theorem Run.mono {α : Type} {m : Sm α} {st : St} {K K' : α → St → Prop} {E E' : X → St → Prop} (h : Run m st K E) (k : ∀ a s, K a s → K' a s) (e : ∀ x s, E x s → E' x s) : Run m st K' E' := by
  unfold Run at h ⊢
  cases e1 : m st with
  | no => rw [e1] at h; exact h.elim
  | ok a s => rw [e1] at h; exact k _ _ h
  | ex x s => rw [e1] at h; exact e _ _ h
theorem Run.then {α : Type} {m : Sm α} {st : St} {K K' : α → St → Prop} {E : X → St → Prop} (h : Run m st K fun _ _ => False) (k : ∀ a s, K a s → K' a s) : Run m st K' E := h.mono k fun _ _ z => z.elim
theorem run_b {α β : Type} {m : Sm α} {k : α → Sm β} {st : St} {K : β → St → Prop} {E : X → St → Prop} : Run (Sm.bind m k) st K E = Run m st (fun a s => Run (k a) s K E) E := by
  unfold Run Sm.bind
  cases m st <;> rfl

/-! ### states -/
def getK : St → Nat → (Option T → Prop) → Prop
  | [], _, k => k none
  | o :: _, 0, k => k o
  | _ :: r, n + 1, k => getK r n k
@[simp ↓] theorem getK_nil {n k} : getK [] n k = k none := by cases n <;> rfl
@[simp ↓] theorem getK_0 {o r k} : getK (o :: r) 0 k = k o := rfl
@[simp ↓] theorem getK_s {o r n k} : getK (o :: r) (n + 1) k = getK r n k := rfl
theorem getK_eq : ∀ (st : St) (n : Nat) (k : Option T → Prop), getK st n k = k (st[n]?.getD none)
  | [], _, k => by simp
  | o :: _, 0, k => by simp
  | _ :: r, n + 1, k => by simp [getK_eq r n k]
def putK : St → Nat → Option T → (St → Prop) → Prop
  | [], _, _, k => k []
  | _ :: r, 0, v, k => k (v :: r)
  | o :: r, n + 1, v, k => putK r n v fun r' => k (o :: r')
@[simp ↓] theorem putK_nil {n v k} : putK [] n v k = k [] := by cases n <;> rfl
@[simp ↓] theorem putK_0 {o r v k} : putK (o :: r) 0 v k = k (v :: r) := rfl
@[simp ↓] theorem putK_s {o r n v k} : putK (o :: r) (n + 1) v k = putK r n v fun r' => k (o :: r') := rfl
theorem putK_eq : ∀ (st : St) (n : Nat) (v : Option T) (k : St → Prop), putK st n v k = k (st.set n v)
  | [], _, _, k => by simp
  | o :: _, 0, _, k => by simp
  | _ :: r, n + 1, v, k => by simp [putK_eq r n v]
def wipeK (st : St) (vs : List Nat) (k : St → Prop) : Prop := k (wipe st vs)
@[simp ↓] theorem wipeK_nil {st k} : wipeK st [] k = k st := rfl
@[simp ↓] theorem wipeK_cons {st v vs k} : wipeK st (v :: vs) k = wipeK st vs fun s => putK s v none k := by
  show k _ = putK (wipe st vs) v none k
  rw [putK_eq]; rfl
def backK (st : St) (vs : List Nat) (s : St) (k : St → Prop) : Prop := k (back st vs s)
@[simp ↓] theorem backK_nil {st s k} : backK st [] s k = k s := rfl
@[simp ↓] theorem backK_cons {st v vs s k} : backK st (v :: vs) s k = wipeK st vs fun st' => getK st' v fun o => putK s v o fun s' => backK st vs s' k := by
  show k _ = getK (wipe st vs) v fun o => putK s v o fun s' => backK st vs s' k
  rw [getK_eq, putK_eq]; rfl
def ifK (p : Prop) (A B : Prop) : Prop := (p → A) ∧ (¬p → B)
theorem ifK_eq {b : Bool} {A B : Prop} : (if b then A else B) = ifK (b = true) A B := by
  cases b <;> simp [ifK]
@[simp ↓] theorem ifK_true {A B} : ifK (true = true) A B = A := by simp [ifK]
@[simp ↓] theorem ifK_false {A B} : ifK (false = true) A B = B := by simp [ifK]
@[simp ↓] theorem ifK_dec {p : Prop} [Decidable p] {A B} : ifK (decide p = true) A B = ifK p A B := by simp [ifK]
@[simp ↓] theorem ifK_ndec {p : Prop} [Decidable p] {A B} : ifK ((!decide p) = true) A B = ifK p B A := by
  simp only [ifK, Bool.not_eq_true', decide_eq_false_iff_not, eq_iff_iff]
  constructor
  · exact fun h => ⟨fun q => h.2 fun n => n q, h.1⟩
  · exact fun h => ⟨h.2, fun n => h.1 (Decidable.of_not_not n)⟩
@[simp ↓] theorem ifK_nt {A B} : ifK ((!true) = true) A B = B := by simp [ifK]
@[simp ↓] theorem ifK_nf {A B} : ifK ((!false) = true) A B = A := by simp [ifK]
@[simp ↓] theorem ifK_T {A B} : ifK True A B = A := by simp [ifK]
@[simp ↓] theorem ifK_F {A B} : ifK False A B = B := by simp [ifK]
theorem ifK_pos {p : Prop} {A B} (h : p) : ifK p A B = A := by simp [ifK, h]
theorem ifK_neg {p : Prop} {A B} (h : ¬p) : ifK p A B = B := by simp [ifK, h]
theorem ifK.mk {p A B : Prop} (h : p → A) (h' : ¬p → B) : ifK p A B := ⟨h, h'⟩

/-! ### values -/
def toK (t : T) (k : D → Prop) : Prop := k t.toD
@[simp ↓] theorem toK_imm {d k} : toK (.imm d) k = k d := rfl
@[simp ↓ high] theorem toK_ims {l k} : toK (.lst (ims l)) k = k (.lst l) := by unfold toK; rw [toD_lst, toDs_ims]
@[simp ↓] theorem toK_lst {l k} : toK (.lst l) k = k (.lst (T.toDs l)) := rfl
def op2K (f : D → D → Option T) (a b : D) (k : T → Prop) : Prop := ∃ t, f a b = some t ∧ k t
def op1K (f : D → Option T) (a : D) (k : T → Prop) : Prop := ∃ t, f a = some t ∧ k t
theorem runOf {α : Type} {o : Option α} {st : St} {K : α → St → Prop} {E : X → St → Prop} : Run (Sm.ofO o) st K E = ∃ t, o = some t ∧ K t st := by
  unfold Run Sm.ofO
  cases o <;> simp
section
variable {st : St} {K : T → St → Prop} {E : X → St → Prop}
def varK (o : Option T) (st : St) (i : Nat) (K : T → St → Prop) : Prop := match o with
  | some (.imm d) => K (.imm d) st
  | some t => putK st i (some (.imm t.toD)) (K (.imm t.toD))
  | none => False
@[simp ↓] theorem varK_imm {d st i K} : varK (some (.imm d)) st i K = K (.imm d) st := rfl
@[simp ↓ high] theorem varK_ims {l st i K} : varK (some (.lst (ims l))) st i K = putK st i (some (.imm (.lst l))) (K (.imm (.lst l))) := by
  show putK st i (some (.imm (T.lst (ims l)).toD)) (K (.imm (T.lst (ims l)).toD)) = _
  rw [toD_lst, toDs_ims]
@[simp ↓] theorem varK_lst {l st i K} : varK (some (.lst l)) st i K = putK st i (some (.imm (.lst (T.toDs l)))) (K (.imm (.lst (T.toDs l)))) := rfl
@[simp ↓] theorem run_var {i} : Run (sVar i) st K E = getK st i fun o => varK o st i K := by
  rw [getK_eq]
  unfold Run sVar varK
  cases e : st[i]? with
  | none => rfl
  | some o => cases o with
    | none => rfl
    | some t => cases t <;> first | rfl | (simp only [Option.getD_some, putK_eq])
def mvK (o : Option T) (k : T → Prop) : Prop := match o with
  | some t => k t
  | none => False
@[simp ↓] theorem mvK_some {t k} : mvK (some t) k = k t := rfl
@[simp ↓] theorem run_mv {i} : Run (sMv i) st K E = getK st i fun o => mvK o fun t => putK st i none (K t) := by
  rw [getK_eq]
  unfold Run sMv mvK
  cases e : st[i]? with
  | none => rfl
  | some o => cases o with
    | none => rfl
    | some t => simp only [Option.getD_some, putK_eq]
@[simp ↓] theorem run_cst {d} : Run (sCst d) st K E = K (.imm d) st := rfl
@[simp ↓] theorem run_op2 {f a b} : Run (sOp2 f a b) st K E = Run a st (fun x s => toK x fun d => Run b s (fun y s => toK y fun d' => op2K f d d' fun t => K t s) E) E := by
  unfold sOp2; rw [run_b]; simp only [run_b, runOf]; rfl
@[simp ↓] theorem run_un {f a} : Run (sUn f a) st K E = Run a st (fun x s => toK x fun d => op1K f d fun t => K t s) E := by
  unfold sUn; rw [run_b]; simp only [run_b, runOf]; rfl
def chK (o : T) (A : Prop) (B : Prop) : Prop := match o with
  | .imm (.bl true) => A
  | .imm (.bl false) => B
  | _ => False
@[simp ↓] theorem chK_some {p : Prop} [Decidable p] {A B} : chK (.imm (.bl (decide p))) A B = ifK p A B := by
  by_cases h : p <;> simp [chK, ifK, h]
@[simp ↓] theorem run_chain {f g a b c} : Run (sChain f g a b c) st K E = Run a st (fun x s => toK x fun d => Run b s (fun y s => toK y fun d' => op2K f d d' fun t => chK t (Run c s (fun z s => toK z fun d'' => op2K g d' d'' fun t => K t s) E) (K (.imm (.bl false)) s)) E) E := by
  unfold sChain; rw [run_b]
  congr 1
  funext x s
  rw [run_b]
  unfold toK op2K
  congr 1
  funext y s
  dsimp only
  generalize f x.toD y.toD = o
  cases o with
  | none => simp [Run]
  | some t =>
    simp only [Option.some.injEq, exists_eq_left']
    cases t with
    | imm d =>
      cases d with
      | bl b => cases b with
        | true => simp only [run_b, runOf, chK]
        | false => rfl
      | _ => rfl
    | _ => rfl
end
theorem ex_ite {α : Type} {c : Prop} [Decidable c] {x : α} {k : α → Prop} : (∃ t, (if c then some x else none) = some t ∧ k t) = (c ∧ k x) := by
  by_cases h : c <;> simp [h]
section
variable {i j : Int} {k : T → Prop}
@[simp ↓] theorem o2_add : op2K fAdd (.int i) (.int j) k = k (.imm (.int (i + j))) := by simp [op2K, fAdd]
@[simp ↓] theorem o2_addI : op2K fAddI (.int i) (.int j) k = k (.imm (.int (i + j))) := by simp [op2K, fAddI]
@[simp ↓] theorem o2_sub : op2K fSub (.int i) (.int j) k = k (.imm (.int (i - j))) := by simp [op2K, fSub]
@[simp ↓] theorem o2_mul : op2K fMul (.int i) (.int j) k = (bits i + bits j < mulLine ∧ k (.imm (.int (i * j)))) := ex_ite
@[simp ↓] theorem o2_div : op2K fDiv (.int i) (.int j) k = ((0 < j ∧ bits j < 9000) ∧ k (.imm (.int (i / j)))) := ex_ite
@[simp ↓] theorem o2_mod : op2K fMod (.int i) (.int j) k = (0 < j ∧ k (.imm (.int (i % j)))) := ex_ite
@[simp ↓] theorem o2_pow : op2K fPow (.int i) (.int j) k = ((0 ≤ j ∧ j ≤ 1000000 ∧ i.natAbs < 2 ^ 64) ∧ k (.imm (.int (i ^ j.toNat)))) := ex_ite
@[simp ↓] theorem o1_neg : op1K fNeg (.int i) k = k (.imm (.int (-i))) := by simp [op1K, fNeg]
@[simp ↓] theorem o2_lt : op2K fLt (.int i) (.int j) k = k (.imm (.bl (decide (i < j)))) := by simp [op2K, fLt]
@[simp ↓] theorem o2_le : op2K fLe (.int i) (.int j) k = k (.imm (.bl (decide (i ≤ j)))) := by simp [op2K, fLe]
@[simp ↓] theorem o2_gt : op2K fGt (.int i) (.int j) k = k (.imm (.bl (decide (j < i)))) := by simp [op2K, fGt]
@[simp ↓] theorem o2_ge : op2K fGe (.int i) (.int j) k = k (.imm (.bl (decide (j ≤ i)))) := by simp [op2K, fGe]
@[simp ↓] theorem o1_isN {d} : op1K fIsN d k = k (.imm (.bl d.isN)) := by simp [op1K, fIsN]
@[simp ↓] theorem o1_notN {d} : op1K fNotN d k = k (.imm (.bl (!d.isN))) := by simp [op1K, fNotN]
theorem o1_isi {x d} : op1K (fIsi x) d k = ∃ t, fIsi x d = some t ∧ k t := rfl
section
variable {d : D} {l : List D} {b : Bool} {s : Str}
theorem o1_isi' {d : D} {x} {b : Bool} (h : fIsi x d = some (.imm (.bl b))) : op1K (fIsi x) d k = k (.imm (.bl b)) := by simp [op1K, h]
@[simp ↓ high] theorem isi_int_int : op1K (fIsi .int) (.int i) k = k (.imm (.bl true)) := o1_isi' rfl
@[simp ↓ high] theorem isi_int_bl : op1K (fIsi .int) (.bl b) k = k (.imm (.bl true)) := o1_isi' rfl
@[simp ↓ high] theorem isi_bl_int : op1K (fIsi .bl) (.int i) k = k (.imm (.bl false)) := o1_isi' rfl
@[simp ↓ high] theorem isi_bl_bl : op1K (fIsi .bl) (.bl b) k = k (.imm (.bl true)) := o1_isi' rfl
@[simp ↓ high] theorem isi_tup_tup : op1K (fIsi .tup) (.tup l) k = k (.imm (.bl true)) := o1_isi' rfl
@[simp ↓ high] theorem isi_lst_lst : op1K (fIsi .lst) (.lst l) k = k (.imm (.bl true)) := o1_isi' rfl
@[simp ↓ high] theorem isi_str_str : op1K (fIsi .str) (.str s) k = k (.imm (.bl true)) := o1_isi' rfl
@[simp ↓ high] theorem isi_tup_non : op1K (fIsi .tup) .non k = k (.imm (.bl false)) := o1_isi' rfl
@[simp ↓ high] theorem isi_int_str : op1K (fIsi .int) (.str s) k = k (.imm (.bl false)) := o1_isi' rfl
@[simp ↓ high] theorem isi_str_int : op1K (fIsi .str) (.int i) k = k (.imm (.bl false)) := o1_isi' rfl
@[simp ↓ high] theorem isi_tup_lst : op1K (fIsi .tup) (.lst l) k = k (.imm (.bl false)) := o1_isi' rfl
@[simp ↓ high] theorem isi_lst_tup : op1K (fIsi .lst) (.tup l) k = k (.imm (.bl false)) := o1_isi' rfl
@[simp] theorem isN_non : D.isN .non = true := rfl
@[simp] theorem isN_bl : D.isN (.bl b) = false := rfl
@[simp] theorem isN_int : D.isN (.int i) = false := rfl
@[simp] theorem isN_str : D.isN (.str s) = false := rfl
@[simp] theorem isN_tup : D.isN (.tup l) = false := rfl
@[simp] theorem isN_lst : D.isN (.lst l) = false := rfl
end
end
/-! ### == -/
@[simp ↓] theorem o2_eq_int {i j : Int} {k : T → Prop} : op2K fEq (.int i) (.int j) k = k (.imm (.bl (decide (i = j)))) := by simp [op2K, fEq, dEq, sEq]
@[simp ↓] theorem o2_ne_int {i j : Int} {k : T → Prop} : op2K fNe (.int i) (.int j) k = k (.imm (.bl (!decide (i = j)))) := by simp [op2K, fNe, dEq, sEq]
@[simp ↓] theorem o2_eq_str {i j : Str} {k : T → Prop} : op2K fEq (.str i) (.str j) k = k (.imm (.bl (decide (i = j)))) := by simp [op2K, fEq, dEq, sEq]
@[simp ↓] theorem o2_ne_str {i j : Str} {k : T → Prop} : op2K fNe (.str i) (.str j) k = k (.imm (.bl (!decide (i = j)))) := by simp [op2K, fNe, dEq, sEq]
@[simp ↓] theorem o2_eq_bl {i j : Bool} {k : T → Prop} : op2K fEq (.bl i) (.bl j) k = k (.imm (.bl (decide (i = j)))) := by simp [op2K, fEq, dEq, sEq]
@[simp ↓] theorem o2_ne_bl {i j : Bool} {k : T → Prop} : op2K fNe (.bl i) (.bl j) k = k (.imm (.bl (!decide (i = j)))) := by simp [op2K, fNe, dEq, sEq]
theorem o2_eq {a b : D} {k : T → Prop} : op2K fEq a b k = ∃ c, dEq a b = some c ∧ k (.imm (.bl c)) := by
  simp only [op2K, fEq, Option.map_eq_some_iff, eq_iff_iff]
  exact ⟨fun ⟨t, ⟨c, h, e⟩, q⟩ => ⟨c, h, by rw [e]; exact q⟩, fun ⟨c, h, q⟩ => ⟨_, ⟨c, h, rfl⟩, q⟩⟩
theorem o2_ne {a b : D} {k : T → Prop} : op2K fNe a b k = ∃ c, dEq a b = some c ∧ k (.imm (.bl (!c))) := by
  simp only [op2K, fNe, Option.map_eq_some_iff, eq_iff_iff]
  exact ⟨fun ⟨t, ⟨c, h, e⟩, q⟩ => ⟨c, h, by rw [e]; exact q⟩, fun ⟨c, h, q⟩ => ⟨_, ⟨c, h, rfl⟩, q⟩⟩

/-! ### items -/
def atK (o : Option D) (k : T → Prop) : Prop := ∃ d, o = some d ∧ k (.imm d)
@[simp ↓] theorem atK_some {d k} : atK (some d) k = k (.imm d) := by simp [atK]
section
variable {l : List D} {i : Int} {k : T → Prop}
theorem o2_ix {a : D} {l : List D} (h : fIx a (.int i) = (atI l i).map T.imm) : op2K fIx a (.int i) k = atK (atI l i) k := by
  unfold op2K atK
  rw [h]
  simp only [Option.map_eq_some_iff, eq_iff_iff]
  exact ⟨fun ⟨t, ⟨c, h, e⟩, q⟩ => ⟨c, h, by rw [e]; exact q⟩, fun ⟨c, h, q⟩ => ⟨_, ⟨c, h, rfl⟩, q⟩⟩
@[simp ↓] theorem o2_ix_lst : op2K fIx (.lst l) (.int i) k = atK (atI l i) k := o2_ix rfl
@[simp ↓] theorem o2_ix_tup : op2K fIx (.tup l) (.int i) k = atK (atI l i) k := o2_ix rfl
@[simp ↓] theorem o2_ix_rol : op2K fIx (.rol l) (.int i) k = atK (atI l i) k := o2_ix rfl
end
theorem atI_nat {α : Type} {l : List α} {n : Nat} : atI l (n : Int) = l[n]? := by simp [atI]
@[simp] theorem atI_lit {α : Type} {l : List α} {n : Nat} : atI l (no_index (OfNat.ofNat n) : Int) = l[(OfNat.ofNat n : Nat)]? := atI_nat
@[simp] theorem atI_0 {α : Type} {l : List α} : atI l 0 = l[0]? := atI_nat (n := 0)
@[simp] theorem atI_1 {α : Type} {l : List α} : atI l 1 = l[1]? := atI_nat (n := 1)
theorem atI_in {α : Type} {l : List α} {i : Int} (h : 0 ≤ i) (h' : i < l.length) : ∃ d, atI l i = some d ∧ d ∈ l := by
  have : i.toNat < l.length := by omega
  exact ⟨l[i.toNat], by simp [atI, h, this], List.getElem_mem _⟩

/-! ### displays, arguments, calls -/
abbrev KA := List T → List (Option Nat) → St → Prop
def RunA (a : Sa) (st : St) (K : KA) (E : X → St → Prop) : Prop := Run a st (fun p s => K p.1 p.2 s) E
section
variable {st : St} {K : KA} {E : X → St → Prop}
@[simp ↓] theorem runA_nil : RunA aNil st K E = K [] [] st := rfl
@[simp ↓] theorem runA_val {m r} : RunA (aVal m r) st K E = Run m st (fun t s => RunA r s (fun ts ls => K (t :: ts) (none :: ls)) E) E := by
  unfold RunA aVal; rw [run_b]; simp only [run_b]; rfl
def lendK (o : Option T) (k : T → Prop) : Prop := match o with
  | some t => k t
  | none => False
@[simp ↓] theorem lendK_some {t k} : lendK (some t) k = k t := rfl
@[simp ↓] theorem runA_lend {i r} : RunA (aLend i r) st K E = getK st i fun o => lendK o fun t => putK st i none fun s => RunA r s (fun ts ls => K (t :: ts) (some i :: ls)) E := by
  rw [getK_eq]
  unfold RunA Run aLend lendK
  cases e : st[i]? with
  | none => rfl
  | some o => cases o with
    | none => rfl
    | some t =>
      simp only [Option.getD_some, putK_eq]
      cases r (st.set i none) <;> rfl
end
section
variable {st : St} {K : T → St → Prop} {E : X → St → Prop}
def lenK (n : Nat) (k : Prop) : Prop := n ≤ 1000 ∧ k
@[simp ↓] theorem lenK_lit {ts : List T} {k} : lenK ts.length k = (ts.length ≤ 1000 ∧ k) := rfl
def toDsK : List T → (List D → Prop) → Prop
  | [], k => k []
  | t :: r, k => toK t fun d => toDsK r fun ds => k (d :: ds)
@[simp ↓] theorem toDsK_nil {k} : toDsK [] k = k [] := rfl
@[simp ↓] theorem toDsK_cons {t r k} : toDsK (t :: r) k = toK t fun d => toDsK r fun ds => k (d :: ds) := rfl
theorem toDsK_eq : ∀ (ts : List T) (k : List D → Prop), toDsK ts k = k (T.toDs ts)
  | [], k => rfl
  | t :: r, k => by show toDsK r (fun ds => k (t.toD :: ds)) = _; rw [toDsK_eq r]; rfl
@[simp ↓] theorem run_tup {a} : Run (sTup a) st K E = RunA a st (fun ts _ s => toDsK ts fun ds => ts.length ≤ 1000 ∧ K (.imm (.tup ds)) s) E := by
  unfold sTup RunA; rw [run_b]
  congr 1
  funext p s
  dsimp only
  rw [toDsK_eq]
  unfold Run
  by_cases h : p.1.length ≤ 1000 <;> simp [h]
@[simp ↓] theorem run_lst {a} : Run (sLst a) st K E = RunA a st (fun ts _ s => ts.length ≤ 1000 ∧ K (.lst ts) s) E := by
  unfold sLst RunA; rw [run_b]
  congr 1
  funext p s
  unfold Run
  by_cases h : p.1.length ≤ 1000 <;> simp [h]
def bltK (f : List D → Option T) (ds : List D) (k : T → Prop) : Prop := ∃ t, f ds = some t ∧ k t
@[simp ↓] theorem run_blt {f a} : Run (sBlt f a) st K E = RunA a st (fun ts _ s => toDsK ts fun ds => bltK f ds fun t => K t s) E := by
  unfold sBlt RunA; rw [run_b]; simp only [runOf, toDsK_eq]; rfl
def wbK (ls : List (Option Nat)) (ps : List (Option T)) (st : St) (k : St → Prop) : Prop := k (wb ls ps st)
@[simp ↓] theorem wbK_nil {ps st k} : wbK [] ps st k = k st := rfl
@[simp ↓] theorem wbK_none {ls p ps st k} : wbK (none :: ls) (p :: ps) st k = wbK ls ps st k := rfl
@[simp ↓] theorem wbK_some {i ls p ps st k} : wbK (some i :: ls) (p :: ps) st k = putK st i p fun s => wbK ls ps s k := by
  rw [putK_eq]; rfl
@[simp ↓] theorem run_call {f a} : Run (sCall f a) st K E = RunA a st (fun ts ls s => RunF f ts (fun t ps => wbK ls ps s (K t)) (fun x ps => wbK ls ps s (E x)) ⟨⟩) E := by
  unfold sCall RunA; rw [run_b]
  congr 1
  funext p s
  unfold Run RunF wbK
  dsimp only
  cases f p.1 <;> rfl
end
/-! ### slices -/
def RunO (m : So) (st : St) (K : Option Int → St → Prop) (E : X → St → Prop) : Prop := Run m st K E
def intK (d : D) (k : Int → Prop) : Prop := match d with
  | .int i => k i
  | _ => False
@[simp ↓] theorem intK_int {i k} : intK (.int i) k = k i := rfl
def sliceK (d : D) (l h : Option Int) (k : T → Prop) : Prop := ∃ t, fSlice d l h = some t ∧ k t
@[simp ↓] theorem sliceK_lst {l lo hi k} : sliceK (.lst l) lo hi k = k (.lst (ims (cutL l lo hi))) := by simp [sliceK, fSlice]
@[simp ↓] theorem sliceK_rol {l lo hi k} : sliceK (.rol l) lo hi k = k (.lst (ims (cutL l lo hi))) := by simp [sliceK, fSlice]
@[simp ↓] theorem sliceK_tup {l lo hi k} : sliceK (.tup l) lo hi k = (¬ (cutAt l.length 0 lo = 0 ∧ cutAt l.length l.length hi = l.length) ∧ k (.imm (.tup (cutL l lo hi)))) := by
  unfold sliceK
  simp only [fSlice]
  by_cases h : cutAt l.length 0 lo = 0 ∧ cutAt l.length l.length hi = l.length
  · rw [if_pos h]; simp [h]
  · rw [if_neg h]; simp [h]
@[simp ↓] theorem runO_none {st K E} : RunO oNone st K E = K none st := rfl
@[simp ↓] theorem runO_some {m st K E} : RunO (oSome m) st K E = Run m st (fun t s => toK t fun d => intK d fun i => K (some i) s) E := by
  unfold RunO oSome
  rw [run_b]
  congr 1
  funext t s
  unfold Run toK intK
  cases t.toD <;> rfl
@[simp ↓] theorem run_slice {a : Sm T} {lo hi : So} {st : St} {K : T → St → Prop} {E : X → St → Prop} : Run (sSlice a lo hi) st K E = Run a st (fun x s => toK x fun d => RunO lo s (fun l s => RunO hi s (fun h s => sliceK d l h fun t => K t s) E) E) E := by
  unfold sSlice RunO
  rw [run_b]
  simp only [run_b, runOf]
  rfl
/-! ### views -/
def frzK (st : St) (k : St → Prop) : Prop := k (frzSt st)
def frz1K (o : Option T) (k : Option T → Prop) : Prop := k (o.map fun t => .imm t.toD)
@[simp ↓] theorem frz1K_none {k} : frz1K none k = k none := rfl
@[simp ↓] theorem frz1K_some {t k} : frz1K (some t) k = toK t fun d => k (some (.imm d)) := rfl
theorem frz1K_any {o k} : frz1K o k = k (o.map fun t => .imm t.toD) := rfl
@[simp ↓] theorem frzK_nil {k} : frzK [] k = k [] := rfl
@[simp ↓] theorem frzK_cons {o st k} : frzK (o :: st) k = frz1K o fun o => frzK st fun s => k (o :: s) := rfl
def scalK (t : T) (k : Prop) : Prop := t.scal = true ∧ k
@[simp ↓] theorem scalK_non {k} : scalK (.imm .non) k = k := by simp [scalK, T.scal]
@[simp ↓] theorem scalK_bl {b k} : scalK (.imm (.bl b)) k = k := by simp [scalK, T.scal]
@[simp ↓] theorem scalK_int {b k} : scalK (.imm (.int b)) k = k := by simp [scalK, T.scal]
@[simp ↓] theorem scalK_str {b k} : scalK (.imm (.str b)) k = k := by simp [scalK, T.scal]
@[simp ↓] theorem run_view {m : Sm T} {st : St} {K : T → St → Prop} {E : X → St → Prop} : Run (sView m) st K E = frzK st fun s => Run m s (fun t _ => scalK t (K t st)) fun _ _ => False := by
  unfold Run sView frzK scalK
  dsimp only
  cases m (frzSt st) with
  | no => rfl
  | ex => rfl
  | ok t s => cases h : t.scal <;> simp [h]
@[simp ↓] theorem run_viewB {m : Sm Bool} {st : St} {K : Bool → St → Prop} {E : X → St → Prop} : Run (sViewB m) st K E = frzK st fun s => Run m s (fun t _ => K t st) fun _ _ => False := by
  unfold Run sViewB frzK
  dsimp only
  cases m (frzSt st) <;> rfl
/-! ### a text's method -/
def strK (d : D) (k : Str → Prop) : Prop := match d with
  | .str s => k s
  | _ => False
@[simp ↓] theorem strK_str {s k} : strK (.str s) k = k s := rfl
def opSK (f : Str → D → Option T) (a : Str) (b : D) (k : T → Prop) : Prop := ∃ t, f a b = some t ∧ k t
@[simp ↓] theorem run_str1 {f : Str → D → Option T} {a b : Sm T} {st : St} {K : T → St → Prop} {E : X → St → Prop} : Run (sStr1 f a b) st K E = Run a st (fun x s => toK x fun d => strK d fun u => Run b s (fun y s => toK y fun d' => opSK f u d' fun t => K t s) E) E := by
  unfold sStr1
  rw [run_b]
  congr 1
  funext x s
  unfold toK strK opSK
  dsimp only
  cases x.toD with
  | str u => simp only [run_b, runOf]
  | _ => rfl
/-! ### defs -/
def mkSt : List T → Nat → (St → Prop) → Prop
  | _, 0, k => k []
  | [], n + 1, k => mkSt [] n fun s => k (none :: s)
  | t :: r, n + 1, k => mkSt r n fun s => k (some t :: s)
@[simp ↓] theorem mkSt_0 {ts k} : mkSt ts 0 k = k [] := by cases ts <;> rfl
@[simp ↓] theorem mkSt_n {n k} : mkSt [] (n + 1) k = mkSt [] n fun s => k (none :: s) := rfl
@[simp ↓] theorem mkSt_c {t r n k} : mkSt (t :: r) (n + 1) k = mkSt r n fun s => k (some t :: s) := rfl
theorem mkSt_eq : ∀ (ts : List T) (n : Nat) (k : St → Prop), ts.length ≤ n → mkSt ts n k = k (ts.map some ++ List.replicate (n - ts.length) none)
  | [], 0, k, _ => rfl
  | [], n + 1, k, _ => by rw [mkSt_n, mkSt_eq [] n _ (Nat.zero_le _)]; simp [List.replicate_succ]
  | t :: r, n + 1, k, h => by
    rw [mkSt_c, mkSt_eq r n _ (by simpa using h)]
    simp
def finK (fx : List Nat) (i n : Nat) (st : St) (k : List (Option T) → Prop) : Prop := k (fin fx i n st)
@[simp ↓] theorem finK_0 {fx i st k} : finK fx i 0 st k = k [] := by unfold finK; cases st <;> rfl
@[simp ↓] theorem finK_s {fx i n o st k} : finK fx i (n + 1) (o :: st) k = ifK (i ∈ fx) (finK fx (i + 1) n st fun ps => k (o :: ps)) (finK fx (i + 1) n st fun ps => k (none :: ps)) := by
  show k ((if i ∈ fx then o else none) :: fin fx (i + 1) n st) = ((i ∈ fx → k (o :: fin fx (i + 1) n st)) ∧ (¬ i ∈ fx → k (none :: fin fx (i + 1) n st)))
  by_cases h : i ∈ fx <;> simp [h]
@[simp ↓] theorem finK_e {i n st k} : finK [] i (n + 1) st k = finK [] (i + 1) n (st.drop 1) fun ps => k (none :: ps) := by
  unfold finK
  cases st with
  | nil => rfl
  | cons o r => show k ((if i ∈ [] then o else none) :: fin [] (i + 1) n r) = _; simp
/-- the end of a body -/
def endK (f : Fl) (k : T → Prop) : Prop := match f with
  | .nx => k (.imm .non)
  | .rt t => k t
  | _ => False
@[simp ↓] theorem endK_nx {k} : endK .nx k = k (.imm .non) := rfl
@[simp ↓] theorem endK_rt {t k} : endK (.rt t) k = k t := rfl
theorem run_def {np n fx body ts} {K : KF} {E : EF} {g} (h : ts.length = np) (hn : np ≤ n) : RunF (sDef np n fx body) ts K E g = mkSt ts n fun s => Run body s (fun f s => endK f fun t => finK fx 0 np s (K t)) (fun x s => finK fx 0 np s (E x)) := by
  subst h
  rw [mkSt_eq _ _ _ hn]
  unfold RunF sDef Run
  rw [if_pos rfl]
  cases body (ts.map some ++ List.replicate (n - ts.length) none) with
  | no => rfl
  | ex x st => rfl
  | ok f st => cases f <;> rfl

/-! ### tests -/
def blK (t : T) (k : Bool → Prop) : Prop := match t.toD with
  | .bl b => k b
  | _ => False
@[simp ↓] theorem blK_bl {b k} : blK (.imm (.bl b)) k = k b := rfl
section
variable {st : St} {K : Bool → St → Prop} {E : X → St → Prop}
@[simp ↓] theorem run_test {m} : Run (sTest m) st K E = Run m st (fun t s => blK t fun b => K b s) E := by
  unfold sTest; rw [run_b]
  congr 1
  funext t s
  unfold blK Run
  cases t.toD <;> rfl
@[simp ↓] theorem run_and {a b} : Run (bAnd a b) st K E = Run a st (fun x s => ifK (x = true) (Run b s K E) (K false s)) E := by
  unfold bAnd; rw [run_b]
  congr 1
  funext x s
  cases x <;> simp [ifK, Run, Sm.pure]
@[simp ↓] theorem run_or {a b} : Run (bOr a b) st K E = Run a st (fun x s => ifK (x = true) (K true s) (Run b s K E)) E := by
  unfold bOr; rw [run_b]
  congr 1
  funext x s
  cases x <;> simp [ifK, Run, Sm.pure]
@[simp ↓] theorem run_not {a} : Run (bNot a) st K E = Run a st (fun x s => K (!x) s) E := by
  unfold bNot; rw [run_b]; rfl
@[simp ↓] theorem run_yes : Run bYes st K E = K true st := rfl
end
section
variable {st : St} {K : T → St → Prop} {E : X → St → Prop}
@[simp ↓] theorem run_andV {a b} : Run (sAndV a b) st K E = Run a st (fun t s => blK t fun x => ifK (x = true) (Run b s K E) (K (.imm (.bl false)) s)) E := by
  unfold sAndV; rw [run_b, run_test]
  congr 1
  funext t s
  congr 1
  funext x
  cases x <;> simp [ifK, Run, Sm.pure]
@[simp ↓] theorem run_orV {a b} : Run (sOrV a b) st K E = Run a st (fun t s => blK t fun x => ifK (x = true) (K (.imm (.bl true)) s) (Run b s K E)) E := by
  unfold sOrV; rw [run_b, run_test]
  congr 1
  funext t s
  congr 1
  funext x
  cases x <;> simp [ifK, Run, Sm.pure]
@[simp ↓] theorem run_notV {a} : Run (sNotV a) st K E = Run a st (fun t s => blK t fun x => K (.imm (.bl (!x))) s) E := by
  unfold sNotV; rw [run_b, run_test]; rfl
end
/-! ### statements -/
def seqK (f : Fl) (A : Prop) (k : Fl → Prop) : Prop := match f with
  | .nx => A
  | f => k f
@[simp ↓] theorem seqK_nx {A k} : seqK .nx A k = A := rfl
@[simp ↓] theorem seqK_rt {t A k} : seqK (.rt t) A k = k (.rt t) := rfl
@[simp ↓] theorem seqK_bk {A k} : seqK .bk A k = k .bk := rfl
@[simp ↓] theorem seqK_ct {A k} : seqK .ct A k = k .ct := rfl
def PatK (g : Pat) (d : D) (s : St) (k : St → Prop) : Prop := match g d s with
  | some s' => k s'
  | none => False
@[simp ↓] theorem patK_name {i d s k} : PatK (gName i) d s k = putK s i (some (.imm d)) k := by rw [putK_eq]; rfl
def PatsK : List Pat → List D → St → (St → Prop) → Prop
  | [], [], s, k => k s
  | p :: ps, d :: ds, s, k => PatK p d s fun s => PatsK ps ds s k
  | _, _, _, _ => False
@[simp ↓] theorem patsK_nil {s k} : PatsK [] [] s k = k s := rfl
@[simp ↓] theorem patsK_cons {p ps d ds s k} : PatsK (p :: ps) (d :: ds) s k = PatK p d s fun s => PatsK ps ds s k := rfl
theorem patsK_eq : ∀ (ps : List Pat) (ds : List D) (s : St) (k : St → Prop), PatsK ps ds s k = match gAll ps ds s with | some s' => k s' | none => False
  | [], [], s, k => rfl
  | [], _ :: _, s, k => rfl
  | _ :: _, [], s, k => rfl
  | p :: ps, d :: ds, s, k => by
    rw [patsK_cons]
    unfold PatK gAll
    cases p d s with
    | none => rfl
    | some s' => exact patsK_eq ps ds s' k
@[simp ↓] theorem patK_tup {ps l s k} : PatK (gTup ps) (.tup l) s k = PatsK ps l s k := by
  rw [patsK_eq]; rfl
@[simp ↓] theorem patK_unp {ps l s k} : PatK (gUnp ps) (.lst l) s k = PatsK ps l s k := by
  rw [patsK_eq]; rfl
section
variable {st : St} {K : Fl → St → Prop} {E : X → St → Prop}
@[simp ↓] theorem run_set {i e} : Run (sSet i e) st K E = Run e st (fun t s => putK s i (some t) (K .nx)) E := by
  unfold sSet; rw [run_b]; simp only [putK_eq]; rfl
@[simp ↓] theorem run_setF {i e} : Run (sSetF i e) st K E = Run e st (fun t s => toK t fun d => putK s i (some (.imm d)) (K .nx)) E := by
  unfold sSetF; rw [run_b]; simp only [putK_eq]; rfl
@[simp ↓] theorem run_asg {g e} : Run (sAsg g e) st K E = Run e st (fun t s => toK t fun d => PatK g d s (K .nx)) E := by
  unfold sAsg; rw [run_b]
  congr 1
  funext t s
  unfold toK PatK Run
  dsimp only
  cases g t.toD s <;> rfl
@[simp ↓] theorem run_expr {e} : Run (sExpr e) st K E = Run e st (fun _ s => K .nx s) E := by
  unfold sExpr; rw [run_b]; rfl
@[simp ↓] theorem run_ret {e} : Run (sRet e) st K E = Run e st (fun t s => K (.rt t) s) E := by
  unfold sRet; rw [run_b]; rfl
@[simp ↓] theorem run_retN : Run sRetN st K E = K (.rt (.imm .non)) st := rfl
@[simp ↓] theorem run_pass : Run sPass st K E = K .nx st := rfl
@[simp ↓] theorem run_break : Run sBreak st K E = K .bk st := rfl
@[simp ↓] theorem run_never : Run sNever st K E = False := rfl
@[simp ↓] theorem run_seq {a b} : Run (sSeq a b) st K E = Run a st (fun f s => seqK f (Run b s K E) fun f => K f s) E := by
  unfold sSeq; rw [run_b]
  congr 1
  funext f s
  cases f <;> rfl
@[simp ↓] theorem run_if {c a b} : Run (sIf c a b) st K E = Run c st (fun x s => ifK (x = true) (Run a s K E) (Run b s K E)) E := by
  unfold sIf; rw [run_b]
  congr 1
  funext x s
  cases x <;> simp [ifK]
def augK (o : Option T) (k : D → Prop) : Prop := match o with
  | some (.imm d) => k d
  | _ => False
@[simp ↓] theorem augK_imm {d k} : augK (some (.imm d)) k = k d := rfl
@[simp ↓] theorem run_aug {i f e} : Run (sAug i f e) st K E = getK st i fun o => augK o fun d => Run e st (fun y s => toK y fun d' => op2K f d d' fun t => toK t fun d => putK s i (some (.imm d)) (K .nx)) E := by
  rw [getK_eq]
  unfold Run sAug augK
  cases e1 : st[i]? with
  | none => rfl
  | some o => cases o with
    | none => rfl
    | some t => cases t with
      | imm d =>
        simp only [Option.getD_some]
        cases e2 : e st with
        | no => rfl
        | ex => rfl
        | ok y s =>
          simp only [bind_ok]
          unfold toK op2K
          dsimp only
          cases e3 : f d y.toD with
          | none => simp
          | some t => simp [putK_eq]
      | _ => rfl
def lstK (o : Option T) (k : List T → Prop) : Prop := match o with
  | some (.lst l) => k l
  | _ => False
@[simp ↓] theorem lstK_lst {l k} : lstK (some (.lst l)) k = k l := rfl
def methK (f : List T → List T → Option (List T × T)) (l ts : List T) (k : List T → T → Prop) (_ : Tg k) : Prop := ∃ q, f l ts = some q ∧ k q.1 q.2
@[simp ↓] theorem run_meth {i f a} {K : T → St → Prop} : Run (sMeth i f a) st K E = getK st i fun o => lstK o fun _ => RunA a st (fun ts _ s => getK s i fun o => lstK o fun l => methK f l ts (fun l' r => putK s i (some (.lst l')) (K r)) ⟨⟩) E := by
  rw [getK_eq]
  unfold Run sMeth lstK
  cases e1 : st[i]? with
  | none => rfl
  | some o => cases o with
    | none => rfl
    | some t => cases t with
      | lst l =>
        simp only [Option.getD_some]
        unfold RunA Run
        cases e2 : a st with
        | no => rfl
        | ex => rfl
        | ok p s =>
          simp only [bind_ok]
          rw [getK_eq]
          cases e3 : s[i]? with
          | none => rfl
          | some o => cases o with
            | none => rfl
            | some t => cases t with
              | lst l =>
                simp only [Option.getD_some]
                unfold methK
                cases e4 : f l p.1 with
                | none => simp
                | some q => simp [putK_eq]
              | _ => rfl
      | _ => rfl
@[simp ↓] theorem meth_app {l t k g} : methK mAppend l [t] k g = (l.length < line ∧ k (l ++ [t]) (.imm .non)) := ex_ite
@[simp ↓] theorem meth_pop0 {t r k g} : methK mPop0 (t :: r) [.imm (.int 0)] k g = k r t := by simp [methK, mPop0]
@[simp ↓] theorem meth_clear {l k g} : methK mClear l [] k g = k [] (.imm .non) := by simp [methK, mClear]
@[simp ↓] theorem meth_ext {l r k g} : methK mExtend l [.imm (.lst r)] k g = (l.length + r.length ≤ line ∧ k (l ++ ims r) (.imm .non)) := ex_ite
@[simp ↓] theorem meth_extT {l r k g} : methK mExtend l [.lst (ims r)] k g = (l.length + r.length ≤ line ∧ k (l ++ ims r) (.imm .non)) := by
  have : methK mExtend l [.lst (ims r)] k g = methK mExtend l [.imm (.lst r)] k g := by
    have e : mExtend l [.lst (ims r)] = mExtend l [.imm (.lst r)] := by
      unfold mExtend
      dsimp only
      rw [toD_lst, toDs_ims]; rfl
    unfold methK
    rw [e]
  rw [this, meth_ext]
theorem meth_pop {l : List T} {t k g} : methK mPop (l ++ [t]) [] k g = k l t := by
  simp [methK, mPop]
theorem meth_pop_ims {l : List D} {k g} (h : l ≠ []) : methK mPop (ims l) [] k g = k (ims l.dropLast) (.imm (l.getLast h)) := by
  conv => lhs; rw [← List.dropLast_concat_getLast h, ims_append]
  rw [ims_cons, ims_nil, meth_pop]
end
/-! ### loops -/
def RunI (m : Si) (st : St) (K : List D → St → Prop) (E : X → St → Prop) : Prop := Run m st K E
def RunL (g : Pat) (body : Ss) (ds : List D) (st : St) (K : Fl → St → Prop) (E : X → St → Prop) (_ : Tg (K, E)) : Prop := Run (loopFor g body ds) st K E
def loK (f : Fl) (A : Prop) (k : Fl → Prop) : Prop := match f with
  | .nx => A
  | .ct => A
  | .bk => k .nx
  | .rt t => k (.rt t)
@[simp ↓] theorem loK_nx {A k} : loK .nx A k = A := rfl
@[simp ↓] theorem loK_ct {A k} : loK .ct A k = A := rfl
@[simp ↓] theorem loK_bk {A k} : loK .bk A k = k .nx := rfl
@[simp ↓] theorem loK_rt {t A k} : loK (.rt t) A k = k (.rt t) := rfl
section
variable {st : St} {K : Fl → St → Prop} {E : X → St → Prop} {g : Pat} {body : Ss}
@[simp ↓] theorem run_for {src} : Run (sFor src g body) st K E = RunI src st (fun ds s => RunL g body ds s K E ⟨⟩) E := by
  unfold sFor RunI; rw [run_b]; rfl
theorem runL_nil {t} : RunL g body [] st K E t = K .nx st := rfl
theorem runL_cons {d r t} : RunL g body (d :: r) st K E t = PatK g d st fun s => Run body s (fun f s => loK f (RunL g body r s K E t) fun f => K f s) E := by
  unfold RunL PatK
  unfold Run
  rw [loopFor]
  dsimp only
  cases g d st with
  | none => rfl
  | some s1 =>
    dsimp only
    cases body s1 with
    | no => rfl
    | ex => rfl
    | ok f s => cases f <;> rfl
/-- I: what holds before the rest -/
theorem RunL.inv (I : List D → St → Prop) (step : ∀ d r s, I (d :: r) s → PatK g d s fun s => Run body s (fun f s => loK f (I r s) fun f => K f s) E) (fin : ∀ s, I [] s → K .nx s) : ∀ (ds : List D) (st : St) (t), I ds st → RunL g body ds st K E t
  | [], st, t, h => by rw [runL_nil]; exact fin _ h
  | d :: r, st, t, h => by
    rw [runL_cons]
    have := step d r st h
    unfold PatK at this ⊢
    cases e : g d st with
    | none => rw [e] at this; exact this.elim
    | some s1 =>
      rw [e] at this
      refine Run.mono this (fun f s q => ?_) fun _ _ z => z
      cases f with
      | nx => exact RunL.inv I step fin r s t q
      | ct => exact RunL.inv I step fin r s t q
      | bk => exact q
      | rt t => exact q
theorem RunL.rng (I : Nat → St → Prop) {lo c : Int} : ∀ (n j : Nat) (st : St) (t) (step : ∀ i s, i < n + j → I i s → PatK g (.int (lo + c * i)) s fun s => Run body s (fun f s => loK f (I (i + 1) s) fun f => K f s) E) (fin : ∀ s, I (n + j) s → K .nx s), I j st → RunL g body (rng (lo + c * j) c n) st K E t
  | 0, j, st, t, step, fin, h => by
    rw [show G.rng (lo + c * j) c 0 = [] from rfl, runL_nil]
    exact fin _ (by simpa using h)
  | n + 1, j, st, t, step, fin, h => by
    rw [show G.rng (lo + c * j) c (n + 1) = .int (lo + c * j) :: G.rng (lo + c * j + c) c n from rfl, runL_cons]
    have := step j st (by omega) h
    unfold PatK at this ⊢
    cases e : g (.int (lo + c * j)) st with
    | none => rw [e] at this; exact this.elim
    | some s1 =>
      rw [e] at this
      have go : ∀ s, I (j + 1) s → RunL g body (G.rng (lo + c * j + c) c n) s K E t := fun s q => by
        have := RunL.rng I (lo := lo) (c := c) n (j + 1) s t (fun i s h => step i s (by omega)) (fun s h => fin s (by rw [show n + 1 + j = n + (j + 1) by omega]; exact h)) q
        rwa [show lo + c * ((j + 1 : Nat) : Int) = lo + c * j + c by rw [Int.natCast_add, Int.mul_add]; simp [Int.add_assoc]] at this
      refine Run.mono this (fun f s q => ?_) fun _ _ z => z
      cases f with
      | nx => exact go s q
      | ct => exact go s q
      | bk => exact q
      | rt t => exact q
/-- for x in range(n) -/
theorem RunL.rng0 (I : Nat → St → Prop) {n : Nat} {st : St} {t} (step : ∀ i s, i < n → I i s → PatK g (.int i) s fun s => Run body s (fun f s => loK f (I (i + 1) s) fun f => K f s) E) (fin : ∀ s, I n s → K .nx s) (h : I 0 st) : RunL g body (G.rng 0 1 n) st K E t := by
  have := RunL.rng (g := g) (body := body) (K := K) (E := E) I (lo := 0) (c := 1) n 0 st t (fun i s h q => by simpa using step i s (by omega) q) (fun s q => fin s (by simpa using q)) h
  simpa using this
end
theorem run_while {c : Sm Bool} {body : Ss} {n : Nat} {st : St} {K : Fl → St → Prop} {E : X → St → Prop} : Run (loopW c body (n + 1)) st K E = Run c st (fun b s => ifK (b = true) (Run body s (fun f s => loK f (Run (loopW c body n) s K E) fun f => K f s) E) (K .nx s)) E := by
  rw [loopW, run_b]
  congr 1
  funext b s
  cases b with
  | false => rw [if_neg (by decide), ifK_false]; rfl
  | true =>
    rw [if_pos rfl, ifK_true, run_b]
    congr 1
    funext f s
    cases f <;> rfl
section
variable {st : St} {K : List D → St → Prop} {E : X → St → Prop}
def seqDK (d : D) (k : List D → Prop) : Prop := match d with
  | .lst l => k l
  | .rol l => k l
  | _ => False
def tupDK (d : D) (k : List D → Prop) : Prop := match d with
  | .tup l => k l
  | _ => False
@[simp ↓] theorem seqDK_lst {l k} : seqDK (.lst l) k = k l := rfl
@[simp ↓] theorem seqDK_rol {l k} : seqDK (.rol l) k = k l := rfl
@[simp ↓] theorem tupDK_tup {l k} : tupDK (.tup l) k = k l := rfl
@[simp ↓] theorem runI_list {m} : RunI (iList m) st K E = Run m st (fun t s => toK t fun d => seqDK d fun l => K l s) E := by
  unfold RunI iList; rw [run_b]
  congr 1
  funext t s
  unfold toK seqDK Run
  cases t.toD <;> rfl
@[simp ↓] theorem runI_tup {m} : RunI (iTup m) st K E = Run m st (fun t s => toK t fun d => tupDK d fun l => K l s) E := by
  unfold RunI iTup; rw [run_b]
  congr 1
  funext t s
  unfold toK tupDK Run
  cases t.toD <;> rfl
def rngK (f : List D → Option (List D)) (ds : List D) (k : List D → Prop) : Prop := ∃ l, f ds = some l ∧ k l
@[simp ↓] theorem runI_range {f a} : RunI (iRange f a) st K E = RunA a st (fun ts _ s => toDsK ts fun ds => rngK f ds fun l => K l s) E := by
  unfold RunI iRange RunA; rw [run_b]; simp only [runOf, toDsK_eq]; rfl
theorem small_iff {i : Int} : small i = true ↔ -1000000000 ≤ i ∧ i ≤ 1000000000 := by simp [small]
@[simp ↓] theorem rngK_1 {n k} : rngK rng1 [.int n] k = ((-1000000000 ≤ n ∧ n ≤ 1000000000) ∧ k (rng 0 1 n.toNat)) := by
  unfold rngK rng1
  by_cases h : small n = true
  · simp [small_iff.mp h, h]
  · have : ¬ (-1000000000 ≤ n ∧ n ≤ 1000000000) := fun q => h (small_iff.mpr q)
    simp [this, h]
@[simp ↓] theorem rngK_2 {a b k} : rngK rng2 [.int a, .int b] k = (((-1000000000 ≤ a ∧ a ≤ 1000000000) ∧ (-1000000000 ≤ b ∧ b ≤ 1000000000)) ∧ k (rng a 1 (b - a).toNat)) := by
  unfold rngK rng2
  simp only [← small_iff]
  by_cases h : small a = true ∧ small b = true <;> simp [h]
@[simp ↓] theorem rngK_3 {a b c k} : rngK rng3 [.int a, .int b, .int c] k = (((-1000000000 ≤ a ∧ a ≤ 1000000000) ∧ (-1000000000 ≤ b ∧ b ≤ 1000000000) ∧ (-1000000000 ≤ c ∧ c ≤ 1000000000) ∧ 0 < c) ∧ k (rng a c (if a < b then (b - a - 1) / c + 1 else 0).toNat)) := by
  unfold rngK rng3
  simp only [← small_iff]
  by_cases h : small a = true ∧ small b = true ∧ small c = true ∧ 0 < c
  · simp [h]
  · have : ¬ ((small a && small b && small c && decide (0 < c)) = true) := fun q => h (by simpa [and_assoc] using q)
    simp [h, this]
end
/-! ### comprehensions -/
def RunLC (own : List Nat) (g : Pat) (test : Sm Bool) (elt : Sm T) (ds : List D) (acc : List T) (st : St) (K : List T → St → Prop) (_ : Tg K) : Prop := Run (loopLC own g test elt ds acc) st K fun _ _ => False
section
variable {own : List Nat} {g : Pat} {test : Sm Bool} {elt : Sm T} {st : St} {K : List T → St → Prop} {E : X → St → Prop}
theorem loopLC_noex {own : List Nat} {g : Pat} {test : Sm Bool} {elt : Sm T} : ∀ (ds : List D) (acc : List T) (st : St) (x : X) (s : St), loopLC own g test elt ds acc st ≠ .ex x s
  | [], acc, st, x, s, h => nomatch h
  | d :: r, acc, st, x, s, h => by
    unfold loopLC at h
    cases e1 : g d st with
    | none => simp [e1] at h
    | some s1 =>
      simp only [e1] at h
      cases e2 : test s1 with
      | no => simp [nox, e2] at h
      | ex => simp [nox, e2] at h
      | ok b s2 =>
        simp only [nox, e2, bind_ok] at h
        cases b with
        | false => exact loopLC_noex _ _ _ _ _ (by simpa using h)
        | true =>
          simp only [if_true] at h
          cases e3 : elt s2 with
          | no => simp [e3] at h
          | ex => simp [e3] at h
          | ok t s3 =>
            simp only [e3, bind_ok] at h
            by_cases q : acc.length < line
            · rw [if_pos q] at h; exact loopLC_noex _ _ _ _ _ h
            · rw [if_neg q] at h; cases h
@[simp ↓] theorem run_lc {src} {K : T → St → Prop} : Run (sLC own src g test elt) st K E = RunI src st (fun ds s => wipeK s own fun s0 => RunLC own g test elt ds [] s0 (fun l s' => backK s own s' (K (.lst l))) ⟨⟩) E := by
  unfold sLC RunI; rw [run_b]
  congr 1
  funext ds s
  unfold wipeK RunLC Run backK
  dsimp only
  cases e : loopLC own g test elt ds [] (wipe s own) with
  | no => rfl
  | ok l s' => rfl
  | ex x s' => exact absurd e (loopLC_noex _ _ _ _ _)
theorem runLC_nil {acc t} : RunLC own g test elt [] acc st K t = K acc st := rfl
theorem runLC_cons {d r acc t} : RunLC own g test elt (d :: r) acc st K t = PatK g d st fun s1 => Run test s1 (fun b s2 => ifK (b = true) (Run elt s2 (fun v s3 => acc.length < line ∧ wipeK s3 own fun s => RunLC own g test elt r (acc ++ [v]) s K t) fun _ _ => False) (wipeK s2 own fun s => RunLC own g test elt r acc s K t)) fun _ _ => False := by
  unfold RunLC PatK
  unfold Run
  rw [loopLC]
  dsimp only
  cases g d st with
  | none => rfl
  | some s1 =>
    dsimp only
    unfold nox
    cases test s1 with
    | no => rfl
    | ex => rfl
    | ok b s2 =>
      dsimp only
      cases b with
      | false => simp only [bind_ok, ifK_F, Bool.false_eq_true, if_false]; rfl
      | true =>
        simp only [bind_ok, ifK_T, if_true]
        cases elt s2 with
        | no => rfl
        | ex => rfl
        | ok v s3 =>
          simp only [bind_ok]
          by_cases q : acc.length < line
          · simp only [if_pos q, q, true_and]; rfl
          · simp only [if_neg q, q, false_and, if_false]
inductive All2 {α β : Type} (R : α → β → Prop) : List α → List β → Prop
  | nil : All2 R [] []
  | cons {a b as bs} : R a b → All2 R as bs → All2 R (a :: as) (b :: bs)
/-- no test, no effect; R: what is known of each item -/
theorem RunLC.rel (R : D → T → Prop) {t} : ∀ (ds : List D) (acc : List T), (∀ d ∈ ds, PatK g d st fun s1 => Run elt s1 (fun v s2 => R d v ∧ wipe s2 own = st) fun _ _ => False) → acc.length + ds.length ≤ line → (∀ l, All2 R ds l → K (acc ++ l) st) → RunLC own g bYes elt ds acc st K t
  | [], acc, h, hn, k => by rw [runLC_nil]; simpa using k [] .nil
  | d :: r, acc, h, hn, k => by
    rw [runLC_cons]
    have := h d (by simp)
    unfold PatK at this ⊢
    cases e : g d st with
    | none => rw [e] at this; exact this.elim
    | some s1 =>
      rw [e] at this
      simp only [run_yes, ifK_T]
      refine Run.mono this (fun v s2 ⟨q, w⟩ => ⟨by simp at hn; omega, ?_⟩) fun _ _ z => z
      unfold wipeK
      rw [w]
      refine RunLC.rel R r (acc ++ [v]) (fun d m => h d (by simp [m])) (by simp at hn ⊢; omega) fun l hl => ?_
      simpa using k (v :: l) (.cons q hl)
theorem RunLC.map (F : D → T) {t} {ds : List D} (h : ∀ d ∈ ds, PatK g d st fun s1 => Run elt s1 (fun v s2 => v = F d ∧ wipe s2 own = st) fun _ _ => False) (hn : ds.length ≤ line) (k : K (ds.map F) st) : RunLC own g bYes elt ds [] st K t :=
  RunLC.rel (fun d v => v = F d) ds [] h (by simpa using hn) fun l hl => by
    have : l = ds.map F := by
      clear h hn k
      induction hl with
      | nil => rfl
      | cons q _ ih => rw [q, ih]; rfl
    rw [this]; exact k
/-- with a test: none where the test fails -/
theorem RunLC.filt (F : D → Option T) {t} : ∀ (ds : List D) (acc : List T), (∀ d ∈ ds, PatK g d st fun s1 => Run test s1 (fun b s2 => ifK (b = true) (Run elt s2 (fun v s3 => F d = some v ∧ wipe s3 own = st) fun _ _ => False) (F d = none ∧ wipe s2 own = st)) fun _ _ => False) → acc.length + ds.length ≤ line → K (acc ++ ds.filterMap F) st → RunLC own g test elt ds acc st K t
  | [], acc, h, hn, k => by rw [runLC_nil]; simpa using k
  | d :: r, acc, h, hn, k => by
    rw [runLC_cons]
    have := h d (by simp)
    unfold PatK at this ⊢
    cases e : g d st with
    | none => rw [e] at this; exact this.elim
    | some s1 =>
      rw [e] at this
      refine Run.mono this (fun b s2 q => ?_) fun _ _ z => z
      refine ⟨fun e => ?_, fun e => ?_⟩
      · refine Run.mono (q.1 e) (fun v s3 ⟨q, w⟩ => ⟨by simp at hn; omega, ?_⟩) fun _ _ z => z
        unfold wipeK
        rw [w]
        exact RunLC.filt F r (acc ++ [v]) (fun d m => h d (by simp [m])) (by simp at hn ⊢; omega) (by simpa [List.filterMap_cons, q] using k)
      · obtain ⟨q, w⟩ := q.2 e
        unfold wipeK
        rw [w]
        exact RunLC.filt F r acc (fun d m => h d (by simp [m])) (by simp at hn ⊢; omega) (by simpa [List.filterMap_cons, q] using k)
/-- over a mapped list -/
theorem RunLC.filtM {α : Type} (f : α → D) (F : α → Option T) {t} : ∀ (L : List α) (acc : List T), (∀ a ∈ L, PatK g (f a) st fun s1 => Run test s1 (fun b s2 => ifK (b = true) (Run elt s2 (fun v s3 => F a = some v ∧ wipe s3 own = st) fun _ _ => False) (F a = none ∧ wipe s2 own = st)) fun _ _ => False) → acc.length + L.length ≤ line → K (acc ++ L.filterMap F) st → RunLC own g test elt (L.map f) acc st K t
  | [], acc, h, hn, k => by rw [List.map_nil, runLC_nil]; simpa using k
  | d :: r, acc, h, hn, k => by
    rw [List.map_cons, runLC_cons]
    have := h d (by simp)
    unfold PatK at this ⊢
    cases e : g (f d) st with
    | none => rw [e] at this; exact this.elim
    | some s1 =>
      rw [e] at this
      refine Run.mono this (fun b s2 q => ?_) fun _ _ z => z
      refine ⟨fun e => ?_, fun e => ?_⟩
      · refine Run.mono (q.1 e) (fun v s3 ⟨q, w⟩ => ⟨by simp at hn; omega, ?_⟩) fun _ _ z => z
        unfold wipeK
        rw [w]
        exact RunLC.filtM f F r (acc ++ [v]) (fun d m => h d (by simp [m])) (by simp at hn ⊢; omega) (by simpa [List.filterMap_cons, q] using k)
      · obtain ⟨q, w⟩ := q.2 e
        unfold wipeK
        rw [w]
        exact RunLC.filtM f F r acc (fun d m => h d (by simp [m])) (by simp at hn ⊢; omega) (by simpa [List.filterMap_cons, q] using k)
theorem RunLC.mapM {α : Type} (f : α → D) (F : α → T) {t} {L : List α} (h : ∀ a ∈ L, PatK g (f a) st fun s1 => Run elt s1 (fun v s2 => v = F a ∧ wipe s2 own = st) fun _ _ => False) (hn : L.length ≤ line) (k : K (L.map F) st) : RunLC own g bYes elt (L.map f) [] st K t :=
  RunLC.filtM f (fun a => some (F a)) L [] (fun a m => by
    have := h a m
    unfold PatK at this ⊢
    cases e : g (f a) st with
    | none => rw [e] at this; exact this.elim
    | some s1 =>
      rw [e] at this
      dsimp only at this ⊢
      rw [run_yes, ifK_true]
      exact Run.mono this (fun v s2 q => ⟨by rw [q.1], q.2⟩) fun _ _ z => z) (by simpa using hn) (by simpa using k)
@[simp] theorem toDs_length (l : List T) : (T.toDs l).length = l.length := by rw [toDs_map]; simp
end
end G
set_option Elab.async false
set_option linter.all false
/-! Plain facts that many laws share. -/
namespace G
open PySem PySem.Builtin.Int
theorem bits_le {i : Int} {m : Nat} (h : intBits i ≤ m) : bits i ≤ m := by
  unfold bits
  unfold intBits at h
  by_cases e : i = 0
  · subst e; simp
  · rw [if_neg (by simpa using e)] at h; omega
@[simp] theorem line_eq : line = 16777216 := rfl
@[simp] theorem mulLine_eq : mulLine = 134000000 := rfl
/-- |i| < 2 ^ m -/
def Bd (m : Nat) (i : Int) : Prop := intBits i ≤ m
theorem Bd.mono {m n : Nat} {i : Int} (h : Bd m i) (k : m ≤ n) : Bd n i := Nat.le_trans h k
theorem Bd.add {m n : Nat} {i j : Int} (h : Bd m i) (k : Bd n j) : Bd (max m n + 1) (i + j) := intBits_add_le h k
theorem Bd.sub {m n : Nat} {i j : Int} (h : Bd m i) (k : Bd n j) : Bd (max m n + 1) (i - j) := intBits_sub_le h k
theorem Bd.mul {m n : Nat} {i j : Int} (h : Bd m i) (k : Bd n j) : Bd (m + n) (i * j) := intBits_mul_le h k
theorem Bd.of_abs {m : Nat} {i : Int} (h : i.natAbs < 2 ^ m) : Bd m i := intBits_le_iff.mpr h
theorem Bd.range {m : Nat} {i : Int} (a : -(2 ^ m : Int) < i) (b : i < (2 ^ m : Int)) : Bd m i := Bd.of_abs (by
  have e : ((2 ^ m : Nat) : Int) = (2 : Int) ^ m := by simp
  generalize (2 : Int) ^ m = q at *
  generalize 2 ^ m = p at *
  omega)
theorem Bd.mulOk {m n : Nat} {i j : Int} (h : Bd m i) (k : Bd n j) (l : m + n < 134000000) : bits i + bits j < mulLine := by
  have := bits_le h
  have := bits_le k
  unfold mulLine
  omega
theorem Bd.sum {m : Nat} : ∀ (l : List Int), (∀ z ∈ l, Bd m z) → Bd (m + l.length) l.sum
  | [], _ => by show intBits (List.sum []) ≤ _; simp [intBits]
  | z :: r, h => by
    have := Bd.add (h z (by simp)) (Bd.sum r fun z q => h z (by simp [q]))
    refine (List.sum_cons (a := z) (l := r)) ▸ this.mono ?_
    simp; omega
theorem Bd.div {m : Nat} {i j : Int} (h : Bd m i) (k : 0 < j) : Bd m (i / j) := by
  have := intBits_fdiv_le (y := j) h
  rwa [Int.fdiv_eq_ediv_of_nonneg _ (by omega)] at this
theorem Bd.lit {m : Nat} {i : Int} (h : decide (intBits i ≤ m) = true) : Bd m i := of_decide_eq_true (p := intBits i ≤ m) h
@[simp] theorem bits_0 : bits 0 = 0 := by decide +kernel
@[simp] theorem bits_1 : bits 1 = 0 := by decide +kernel
@[simp] theorem bits_2 : bits 2 = 1 := by decide +kernel
@[simp] theorem bits_3 : bits 3 = 1 := by decide +kernel
@[simp] theorem bits_4 : bits 4 = 2 := by decide +kernel
@[simp] theorem bits_5 : bits 5 = 2 := by decide +kernel
@[simp] theorem bits_6 : bits 6 = 2 := by decide +kernel
@[simp] theorem bits_7 : bits 7 = 2 := by decide +kernel
@[simp] theorem bits_8 : bits 8 = 3 := by decide +kernel
@[simp] theorem bits_9 : bits 9 = 3 := by decide +kernel
@[simp] theorem bits_10 : bits 10 = 3 := by decide +kernel
@[simp] theorem bits_11 : bits 11 = 3 := by decide +kernel
@[simp] theorem bits_12 : bits 12 = 3 := by decide +kernel
@[simp] theorem bits_13 : bits 13 = 3 := by decide +kernel
@[simp] theorem bits_14 : bits 16 = 4 := by decide +kernel
@[simp] theorem bits_15 : bits 20 = 4 := by decide +kernel
@[simp] theorem bits_16 : bits 24 = 4 := by decide +kernel
@[simp] theorem bits_17 : bits 25 = 4 := by decide +kernel
@[simp] theorem bits_18 : bits 26 = 4 := by decide +kernel
@[simp] theorem bits_19 : bits 30 = 4 := by decide +kernel
@[simp] theorem bits_20 : bits 32 = 5 := by decide +kernel
@[simp] theorem bits_21 : bits 60 = 5 := by decide +kernel
@[simp] theorem bits_22 : bits 63 = 5 := by decide +kernel
@[simp] theorem bits_23 : bits 64 = 6 := by decide +kernel
@[simp] theorem bits_24 : bits 97 = 6 := by decide +kernel
@[simp] theorem bits_25 : bits 100 = 6 := by decide +kernel
@[simp] theorem bits_26 : bits 144 = 7 := by decide +kernel
@[simp] theorem bits_27 : bits 300 = 8 := by decide +kernel
@[simp] theorem bits_28 : bits 800 = 9 := by decide +kernel
@[simp] theorem bits_29 : bits 864 = 9 := by decide +kernel
@[simp] theorem bits_30 : bits 900 = 9 := by decide +kernel
@[simp] theorem bits_31 : bits 1000 = 9 := by decide +kernel
@[simp] theorem bits_32 : bits 1000003 = 19 := by decide +kernel
@[simp] theorem bits_33 : bits 982451653 = 29 := by decide +kernel
@[simp] theorem bits_34 : bits 2147483629 = 30 := by decide +kernel
@[simp] theorem bits_35 : bits 2147483587 = 30 := by decide +kernel
@[simp] theorem bits_36 : bits 2147483647 = 30 := by decide +kernel
@[simp] theorem bits_37 : bits 1000000000000000000000000000000 = 99 := by decide +kernel
@[simp] theorem bits_38 : bits 1000000000000000000000000000000000000000000000000000000000000 = 199 := by decide +kernel
@[simp] theorem bits_39 : bits 1000000000000000000 = 59 := by decide +kernel
theorem allI_map : ∀ l : List Int, allI (l.map D.int) = some l
  | [] => rfl
  | z :: r => by
    show (allI (r.map D.int)).map (z :: ·) = _
    rw [allI_map r]; rfl
theorem dEq_refl {d : D} (h : D.flat 40 d = true) : dEq d d = some true := by
  have e := PySem.SeqAt.eqv_refl d.py (flat_ok 40 d h).1
  unfold dEq
  cases d with
  | non => rfl
  | bl b => simp [sEq]
  | int i => simp [sEq]
  | str s => simp [sEq]
  | tup l => simp only [sEq, h, Bool.and_self, if_true, e]
  | lst l => simp only [sEq, h, Bool.and_self, if_true, e]
  | _ => simp [D.flat] at h
theorem eq_self' {d : D} {k : T → Prop} (h : D.flat 40 d = true) : op2K fEq d d k = k (.imm (.bl true)) := by
  rw [o2_eq, dEq_refl h]; simp
theorem ne_self' {d : D} {k : T → Prop} (h : D.flat 40 d = true) : op2K fNe d d k = k (.imm (.bl false)) := by
  rw [o2_ne, dEq_refl h]; simp
@[simp ↓] theorem ne_nil {k : T → Prop} : op2K fNe (.lst []) (.lst []) k = k (.imm (.bl false)) := ne_self' rfl
@[simp ↓] theorem eq_nil {k : T → Prop} : op2K fEq (.lst []) (.lst []) k = k (.imm (.bl true)) := eq_self' rfl
theorem flat_ints (n : Nat) (l : List Int) : (l.map D.int).all (D.flat n) = true := by
  induction l with
  | nil => rfl
  | cons z r ih => simp [ih, D.flat]
theorem dIn_ints (v : Int) (l : List Int) : dIn (.int v) (.lst (l.map D.int)) = some (decide (v ∈ l)) := by
  show (if (D.flat 40 (.int v) && (l.map D.int).all (D.flat 39)) = true then some ((l.map D.int).any fun z => PyData.eqv z.py (D.int v).py) else none) = _
  rw [flat_ints, if_pos (by simp [D.flat])]
  congr 1
  induction l with
  | nil => rfl
  | cons z r ih =>
    simp only [List.map_cons, List.any_cons, ih]
    simp only [D.py, PyData.eqv]
    by_cases h : z = v
    · subst h; simp
    · have h' : ¬ v = z := fun e => h e.symm
      simp [h, h']
theorem o2_notIn {v : Int} {l : List Int} {k : T → Prop} : op2K fNotIn (.int v) (.lst (l.map D.int)) k = k (.imm (.bl (!decide (v ∈ l)))) := by
  simp [op2K, fNotIn, dIn_ints]
theorem o2_notIn1 {v a : Int} {k : T → Prop} : op2K fNotIn (.int v) (.lst [.int a]) k = k (.imm (.bl (!decide (v ∈ [a])))) := o2_notIn (l := [a])
theorem o2_notIn2 {v a b : Int} {k : T → Prop} : op2K fNotIn (.int v) (.lst [.int a, .int b]) k = k (.imm (.bl (!decide (v ∈ [a, b])))) := o2_notIn (l := [a, b])
theorem dEq_cons_nil {d : D} {l : List D} (h : D.flat 40 (.lst (d :: l)) = true) : dEq (.lst (d :: l)) (.lst []) = some false := by
  have h' : D.flat 40 (.lst []) = true := rfl
  unfold dEq sEq
  rw [h, h']
  simp [D.py, D.pys, PyData.eqv, PyData.eqvAll]
theorem eq_cons_nil {d : D} {l : List D} {k : T → Prop} (h : D.flat 40 (.lst (d :: l)) = true) : op2K fEq (.lst (d :: l)) (.lst []) k = k (.imm (.bl false)) := by
  rw [o2_eq, dEq_cons_nil h]; simp
theorem ne_cons_nil {d : D} {l : List D} {k : T → Prop} (h : D.flat 40 (.lst (d :: l)) = true) : op2K fNe (.lst (d :: l)) (.lst []) k = k (.imm (.bl true)) := by
  rw [o2_ne, dEq_cons_nil h]; simp
theorem o2_in {v : Int} {l : List Int} {k : T → Prop} : op2K fIn (.int v) (.lst (l.map D.int)) k = k (.imm (.bl (decide (v ∈ l)))) := by
  simp [op2K, fIn, dIn_ints]
@[simp ↓] theorem o2_add_tup {l r : List D} {k : T → Prop} : op2K fAdd (.tup l) (.tup r) k = ((l.length + r.length ≤ line ∧ 0 < l.length ∧ 0 < r.length) ∧ k (.imm (.tup (l ++ r)))) := ex_ite
@[simp ↓] theorem o2_add_lst {l r : List D} {k : T → Prop} : op2K fAdd (.lst l) (.lst r) k = (l.length + r.length ≤ line ∧ k (.lst (ims (l ++ r)))) := ex_ite
section
variable {k : T → Prop} {l : List D} {i j : Int}
@[simp ↓] theorem b_int_bl {b : Bool} : bltK bInt [.bl b] k = k (.imm (.int (if b then 1 else 0))) := by simp [bltK, bInt, some1]
@[simp ↓] theorem b_len_lst : bltK bLen [.lst l] k = k (.imm (.int l.length)) := by simp [bltK, bLen, fLen]
@[simp ↓] theorem b_len_tup : bltK bLen [.tup l] k = k (.imm (.int l.length)) := by simp [bltK, bLen, fLen]
@[simp ↓] theorem b_len_rol : bltK bLen [.rol l] k = k (.imm (.int l.length)) := by simp [bltK, bLen, fLen]
@[simp ↓] theorem b_abs : bltK bAbs [.int i] k = k (.imm (.int (if i < 0 then -i else i))) := by simp [bltK, bAbs, some1]
@[simp ↓] theorem b_max2 : bltK bMax2 [.int i, .int j] k = k (.imm (.int (if j > i then j else i))) := by simp [bltK, bMax2, some1]
@[simp ↓] theorem b_min2 : bltK bMin2 [.int i, .int j] k = k (.imm (.int (if j < i then j else i))) := by simp [bltK, bMin2, some1]
@[simp ↓] theorem b_int : bltK bInt [.int i] k = k (.imm (.int i)) := by simp [bltK, bInt, some1]
@[simp ↓] theorem b_sum {l : List Int} : bltK bSum [.lst (l.map D.int)] k = k (.imm (.int l.sum)) := by simp [bltK, bSum, allI_map]
theorem b_minL {n : Int} {l : List Int} : bltK bMinL [.lst ((n :: l).map D.int)] k = k (.imm (.int (l.foldl (fun m k => if k < m then k else m) n))) := by
  simp only [bltK, bMinL, allI_map]; simp [some1]
theorem b_maxL {n : Int} {l : List Int} : bltK bMaxL [.lst ((n :: l).map D.int)] k = k (.imm (.int (l.foldl (fun m k => if k > m then k else m) n))) := by
  simp only [bltK, bMaxL, allI_map]; simp [some1]
@[simp ↓] theorem b_minL2 : bltK bMinL [.lst [.int i, .int j]] k = k (.imm (.int (if j < i then j else i))) := b_minL (l := [j])
@[simp ↓] theorem b_maxL2 : bltK bMaxL [.lst [.int i, .int j]] k = k (.imm (.int (if j > i then j else i))) := b_maxL (l := [j])
theorem b_sorted {l : List Int} : bltK bSorted [.lst (l.map D.int)] k = k (.lst (ims ((srt l).map D.int))) := by
  simp only [bltK, bSorted, allI_map]; simp
@[simp ↓] theorem b_sorted2 : bltK bSorted [.lst [.int i, .int j]] k = k (.lst (ims ((srt [i, j]).map D.int))) := b_sorted (l := [i, j])
@[simp ↓] theorem b_list_lst : bltK bList [.lst l] k = k (.lst (ims l)) := by simp [bltK, bList]
@[simp ↓] theorem b_list_rol : bltK bList [.rol l] k = k (.lst (ims l)) := by simp [bltK, bList]
@[simp ↓] theorem b_list_tup : bltK bList [.tup l] k = k (.lst (ims l)) := by simp [bltK, bList]
@[simp ↓] theorem b_tuple_lst : bltK bTuple [.lst l] k = k (.imm (.tup l)) := by simp [bltK, bTuple, some1]
@[simp ↓] theorem b_tuple_tup : bltK bTuple [.tup l] k = k (.imm (.tup l)) := by simp [bltK, bTuple, some1]
@[simp ↓] theorem o1_revT : op1K fRev (.tup l) k = k (.lst (ims l.reverse)) := by simp [op1K, fRev]
@[simp ↓] theorem o1_rev : op1K fRev (.lst l) k = k (.lst (ims l.reverse)) := by simp [op1K, fRev]
end
theorem rng_mem {lo c : Int} : ∀ {n : Nat} {d : D}, d ∈ rng lo c n → ∃ j : Nat, j < n ∧ d = .int (lo + c * j)
  | 0, d, h => by cases h
  | n + 1, d, h => by
    rw [show rng lo c (n + 1) = .int lo :: rng (lo + c) c n from rfl] at h
    rcases List.mem_cons.mp h with e | e
    · exact ⟨0, by omega, by simp [e]⟩
    · obtain ⟨j, h1, h2⟩ := rng_mem e
      refine ⟨j + 1, by omega, ?_⟩
      rw [h2, Int.natCast_add, Int.mul_add]
      simp [Int.add_assoc, Int.add_comm, Int.add_left_comm]
@[simp] theorem rng_length {lo c : Int} : ∀ {n : Nat}, (rng lo c n).length = n
  | 0 => rfl
  | n + 1 => by
    rw [show rng lo c (n + 1) = .int lo :: rng (lo + c) c n from rfl, List.length_cons, rng_length]
/-- ints of a list, by what is known of each -/
theorem All2.ints {P : Int → Prop} {R : D → T → Prop} (h : ∀ d t, R d t → ∃ z, t = .imm (.int z) ∧ P z) : ∀ {ds : List D} {l : List T}, All2 R ds l → ∃ L : List Int, l = ims (L.map D.int) ∧ L.length = ds.length ∧ ∀ z ∈ L, P z
  | _, _, .nil => ⟨[], rfl, rfl, by simp⟩
  | _, _, .cons q r => by
    obtain ⟨z, e, p⟩ := h _ _ q
    obtain ⟨L, e2, e3, p2⟩ := All2.ints h r
    refine ⟨z :: L, by rw [e, e2]; rfl, by simp [e3], ?_⟩
    intro y hy
    rcases List.mem_cons.mp hy with q | q
    · rw [q]; exact p
    · exact p2 y q
theorem RunLC.draw {a p : Int} {n s j : Nat} {ns : List Int} {st : St} {K : List T → St → Prop} {t} (hs : st[s]? = some (some (.imm (.rol (ns.map D.int))))) (hj : st[j]? = some none) (h : ∀ i : Nat, i < n → 0 ≤ a + p * i ∧ a + p * i < ns.length) (hn : n ≤ line)
    (k : ∀ L : List Int, L.length = n → (∀ z ∈ L, z ∈ ns) → K (ims (L.map D.int)) st) : RunLC [j] (gName j) bYes (sOp2 fIx (sVar s) (sVar j)) (rng a p n) [] st K t := by
  have ne : s ≠ j := fun e => by rw [e, hj] at hs; cases hs
  refine RunLC.rel (fun d t => ∃ z, t = .imm (.int z) ∧ z ∈ ns) _ _ (fun d hd => ?_) (by simpa using hn) fun l hl => ?_
  · obtain ⟨i, hi, rfl⟩ := rng_mem hd
    obtain ⟨h1, h2⟩ := h i hi
    obtain ⟨x, e, m⟩ := atI_in (l := ns.map D.int) h1 (by simpa using h2)
    obtain ⟨z, hz, rfl⟩ := List.mem_map.mp m
    have g1 : (st.set j (some (.imm (.int (a + p * i)))))[s]? = some (some (.imm (.rol (ns.map D.int)))) := by
      rw [List.getElem?_set_ne (fun e => ne e.symm)]; exact hs
    have lj : j < st.length := by
      rcases Nat.lt_or_ge j st.length with q | q
      · exact q
      · rw [List.getElem?_eq_none q] at hj; cases hj
    have g2 : (st.set j (some (.imm (.int (a + p * i)))))[j]? = some (some (.imm (.int (a + p * i)))) := by
      rw [List.getElem?_set_self lj]
    rw [patK_name, putK_eq, run_op2, run_var, getK_eq, g1]
    simp [getK_eq, g2, e]
    refine ⟨hz, ?_⟩
    show ((st.set j (some (.imm (.int (a + p * i))))).set j none) = st
    rw [List.set_set]
    apply List.ext_getElem?
    intro q
    by_cases e : j = q
    · subst e; rw [List.getElem?_set_self lj, hj]
    · rw [List.getElem?_set_ne e]
  · obtain ⟨L, e, e2, e3⟩ := All2.ints (P := (· ∈ ns)) (fun _ _ h => h) hl
    rw [e]
    exact k L (by simpa using e2) e3
theorem rng3_lt {a p m : Int} {i : Nat} (hp : 0 < p) (h : i < (if a < m then (m - a - 1) / p + 1 else 0).toNat) : a + p * i < m := by
  by_cases q : a < m
  · rw [if_pos q] at h
    have h1 : (i : Int) ≤ (m - a - 1) / p := by omega
    have h2 := (Int.le_ediv_iff_mul_le hp).mp h1
    rw [Int.mul_comm] at h2
    omega
  · rw [if_neg q] at h
    simp at h
theorem rng3_len {a p m : Int} (hp : 0 < p) (ha : 0 ≤ a) : ((if a < m then (m - a - 1) / p + 1 else 0).toNat : Int) ≤ max m 0 := by
  by_cases q : a < m
  · rw [if_pos q]
    have : (m - a - 1) / p ≤ m - a - 1 := by
      have := Int.ediv_le_self (a := m - a - 1) p (by omega)
      exact this
    omega
  · rw [if_neg q]; simp; omega
/-- n digits below 1000003 -/
def Purse (n : Nat) (L : List Int) : Prop := L.length = n ∧ ∀ z ∈ L, 0 ≤ z ∧ z < 1000003
theorem popK {L : List Int} {n : Nat} (h : Purse (n + 1) L) {k g} (q : ∀ M z, Purse n M → 0 ≤ z → z < 1000003 → k (ims (M.map D.int)) (.imm (.int z))) : methK mPop (ims (L.map D.int)) [] k g := by
  obtain ⟨h1, h2⟩ := h
  have hne : L ≠ [] := fun e => by rw [e] at h1; simp at h1
  have e := List.dropLast_concat_getLast hne
  have m := List.getLast_mem hne
  generalize L.getLast hne = z at e m
  generalize L.dropLast = M at e
  subst e
  rw [List.map_append, ims_append]
  simp only [List.map_cons, List.map_nil, ims_cons, ims_nil]
  rw [meth_pop]
  exact q M z ⟨by simpa using h1, fun y hy => h2 y (by simp [hy])⟩ (h2 z (by simp)).1 (h2 z (by simp)).2
/-- at least n digits below 1000003 -/
def Rich (n : Nat) (L : List Int) : Prop := n ≤ L.length ∧ ∀ z ∈ L, 0 ≤ z ∧ z < 1000003
theorem popR {L : List Int} {n : Nat} (h : Rich (n + 1) L) {k g} (q : ∀ M z, M.length + 1 = L.length → Rich n M → 0 ≤ z → z < 1000003 → k (ims (M.map D.int)) (.imm (.int z))) : methK mPop (ims (L.map D.int)) [] k g := by
  obtain ⟨n', hn⟩ : ∃ n', L.length = n' + 1 := ⟨L.length - 1, by have := h.1; omega⟩
  exact popK ⟨hn, h.2⟩ fun M z hM h0 h1 => q M z (by rw [hM.1, hn]) ⟨by have := hM.1; have := h.1; omega, hM.2⟩ h0 h1
/-- a call ends with a value, as Q tells; it never raises -/
def Sp (f : Fn) (ts : List T) (Q : KF) : Prop := RunF f ts Q (fun _ _ => False) ⟨⟩
theorem sp_def {np n fx body ts} {Q : KF} (h : ts.length = np) (hn : np ≤ n) : Sp (sDef np n fx body) ts Q = mkSt ts n fun s => Run body s (fun f s => endK f fun t => finK fx 0 np s (Q t)) (fun _ _ => False) := run_def h hn
theorem Sp.k {f : Fn} {ts : List T} {Q K : KF} {E g} (h : Sp f ts Q) (k : ∀ t ps, Q t ps → K t ps) : RunF f ts K E g := RunF.then h k
theorem Sp.eqn {f : Fn} {ts : List T} {t0 : T} {ps0 : List (Option T)} {K : KF} {E g} (h : Sp f ts fun t ps => t = t0 ∧ ps = ps0) : RunF f ts K E g = K t0 ps0 := by
  obtain ⟨t, ps, e, rfl, rfl⟩ := RunF.eq h
  exact RunF.of_eq e
theorem Sp.mono {f : Fn} {ts : List T} {Q K : KF} (h : Sp f ts Q) (k : ∀ t ps, Q t ps → K t ps) : Sp f ts K := RunF.then h k
@[simp] theorem filterMap_no {α β : Type} (l : List α) : l.filterMap (fun _ => (none : Option β)) = [] := by
  induction l with
  | nil => rfl
  | cons a r ih => simp [List.filterMap_cons, ih]
theorem True'.mk {f : Fn} {ns : List Int} (h : Sp f [.imm (script ns)] fun t ps => t = .imm (.bl true)) : True' f ns := by
  obtain ⟨t, ps, e, q⟩ := RunF.eq h
  exact ⟨ps, by rw [e, q]⟩
end G
set_option Elab.async false
set_option linter.all false
/-! Words. -/
namespace G
open PySem
theorem toNat_inj {a b : Char} (h : a.toNat = b.toNat) : a = b := by
  apply Char.ext
  exact UInt32.toNat_inj.mp h
theorem map_toNat_inj : ∀ {l r : List Char}, l.map Char.toNat = r.map Char.toNat → l = r
  | [], [], _ => rfl
  | [], _ :: _, h => nomatch h
  | _ :: _, [], h => nomatch h
  | a :: l, b :: r, h => by
    rw [List.map_cons, List.map_cons] at h
    injection h with h1 h2
    rw [toNat_inj h1, map_toNat_inj h2]
@[simp] theorem ofString_inj {a b : String} : Str.ofString a = Str.ofString b ↔ a = b := by
  constructor
  · intro h
    rw [Str.ofString_eq_toList, Str.ofString_eq_toList] at h
    injection h with h
    have := map_toNat_inj (Array.mk.inj h)
    exact String.toList_inj.mp this
  · intro h; rw [h]
theorem strOk_ofString (s : String) : PyData.canLay0 (.str (Str.ofString s)) = true := by
  show PyData.strOk (Str.ofString s) = true
  rw [Str.ofString_eq_toList]
  unfold PyData.strOk
  simp only [List.all_toArray, List.all_map, List.all_eq_true, Function.comp, decide_eq_true_eq]
  intro c _
  have := c.valid
  have e : c.toNat = c.val.toNat := rfl
  rcases this with h | ⟨_, h⟩
  · rw [e]; show c.val.toNat < _; have h' : c.val.toNat < 0xd800 := h; omega
  · rw [e]; exact h
@[simp] theorem flat_str (n : Nat) (s : String) : D.flat n (.str (Str.ofString s)) = true := by
  unfold D.flat
  exact strOk_ofString s
theorem o2_in_tup {d : D} {l : List D} {k : T → Prop} (h : D.flat 0 d = true) (h' : ∀ x ∈ l, D.flat 0 x = true) : op2K fIn d (.tup l) k = k (.imm (.bl (l.any fun z => PyData.eqv z.py d.py))) := by
  have e : dIn d (.tup l) = some (l.any fun z => PyData.eqv z.py d.py) := by
    have c : (D.flat 0 d && l.all (D.flat 0)) = true := by rw [h, Bool.true_and, List.all_eq_true]; exact h'
    cases d <;> first | (simp only [dIn, c, if_true]) | (exfalso; simp [D.flat] at h)
  simp [op2K, fIn, e]
theorem o2_notIn_tup {d : D} {l : List D} {k : T → Prop} (h : D.flat 0 d = true) (h' : ∀ x ∈ l, D.flat 0 x = true) : op2K fNotIn d (.tup l) k = k (.imm (.bl (!(l.any fun z => PyData.eqv z.py d.py)))) := by
  have e : dIn d (.tup l) = some (l.any fun z => PyData.eqv z.py d.py) := by
    have c : (D.flat 0 d && l.all (D.flat 0)) = true := by rw [h, Bool.true_and, List.all_eq_true]; exact h'
    cases d <;> first | (simp only [dIn, c, if_true]) | (exfalso; simp [D.flat] at h)
  simp [op2K, fNotIn, e]
@[simp] theorem eqv_str {a b : Str} : PyData.eqv (.str a) (.str b) = decide (a = b) := by
  rw [PyData.eqv]
  by_cases h : a = b <;> simp [h]
@[simp] theorem py_str {a : Str} : D.py (.str a) = .str a := rfl
@[simp] theorem py_int {a : Int} : D.py (.int a) = .int a := rfl
example {k : T → Prop} : op2K fIn (.str "number") (.tup [.str "x", .str "number"]) k = k (.imm (.bl true)) := by
  simp [o2_in_tup]
/-! slices -/
@[simp] theorem cut_tail {α : Type} {a : α} {l : List α} : cutL (a :: l) (some 1) none = l := by
  simp [cutL, cutAt]
theorem cut_mid {α : Type} (A B C : List α) : cutL (A ++ (B ++ C)) (some (A.length : Int)) (some ((A.length : Int) + (B.length : Int))) = B := by
  have h1 : cutAt (A ++ (B ++ C)).length 0 (some (A.length : Int)) = A.length := by
    simp only [cutAt]
    rw [if_neg (by omega)]
    simp <;> omega
  have h2 : cutAt (A ++ (B ++ C)).length (A ++ (B ++ C)).length (some ((A.length : Int) + (B.length : Int))) = A.length + B.length := by
    simp only [cutAt]
    rw [if_neg (by omega)]
    simp <;> omega
  unfold cutL
  rw [h1, h2]
  simp
theorem cut_first {α : Type} (A C : List α) : cutL (A ++ C) (some 0) (some (A.length : Int)) = A := by
  have := cut_mid [] A C
  simpa using this
theorem cut_map {α β : Type} (f : α → β) (l : List α) (lo hi : Option Int) : cutL (l.map f) lo hi = (cutL l lo hi).map f := by
  simp [cutL]
end G
set_option Elab.async false
set_option linter.all false
set_option maxRecDepth 100000
namespace G
open PySem
@[simp] theorem bits_l0 : bits 0 = 0 := by decide +kernel
@[simp] theorem bits_l1 : bits 1 = 0 := by decide +kernel
@[simp] theorem bits_l2 : bits 2 = 1 := by decide +kernel
@[simp] theorem bits_l3 : bits 3 = 1 := by decide +kernel
@[simp] theorem bits_l4 : bits 4 = 2 := by decide +kernel
@[simp] theorem bits_l5 : bits 5 = 2 := by decide +kernel
@[simp] theorem bits_l6 : bits 6 = 2 := by decide +kernel
@[simp] theorem bits_l7 : bits 7 = 2 := by decide +kernel
@[simp] theorem bits_l8 : bits 8 = 3 := by decide +kernel
@[simp] theorem bits_l9 : bits 9 = 3 := by decide +kernel
@[simp] theorem bits_l10 : bits 10 = 3 := by decide +kernel
@[simp] theorem bits_l11 : bits 11 = 3 := by decide +kernel
@[simp] theorem bits_l12 : bits 12 = 3 := by decide +kernel
@[simp] theorem bits_l13 : bits 13 = 3 := by decide +kernel
@[simp] theorem bits_l18 : bits 18 = 4 := by decide +kernel
@[simp] theorem bits_l25 : bits 25 = 4 := by decide +kernel
@[simp] theorem bits_l26 : bits 26 = 4 := by decide +kernel
@[simp] theorem bits_l60 : bits 60 = 5 := by decide +kernel
@[simp] theorem bits_l63 : bits 63 = 5 := by decide +kernel
@[simp] theorem bits_l97 : bits 97 = 6 := by decide +kernel
@[simp] theorem bits_l100 : bits 100 = 6 := by decide +kernel
@[simp] theorem bits_l120 : bits 120 = 6 := by decide +kernel
@[simp] theorem bits_l144 : bits 144 = 7 := by decide +kernel
@[simp] theorem bits_l301 : bits 301 = 8 := by decide +kernel
@[simp] theorem bits_l700 : bits 700 = 9 := by decide +kernel
@[simp] theorem bits_l864 : bits 864 = 9 := by decide +kernel
@[simp] theorem bits_l900 : bits 900 = 9 := by decide +kernel
@[simp] theorem bits_l1000003 : bits 1000003 = 19 := by decide +kernel
@[simp] theorem bits_l982451653 : bits 982451653 = 29 := by decide +kernel
@[simp] theorem bits_l2147483587 : bits 2147483587 = 30 := by decide +kernel
@[simp] theorem bits_l2147483629 : bits 2147483629 = 30 := by decide +kernel
@[simp] theorem bits_l1000000000000000000 : bits 1000000000000000000 = 59 := by decide +kernel
@[simp] theorem bits_l1000000000000000009 : bits 1000000000000000009 = 59 := by decide +kernel
@[simp] theorem bits_l1152921504606846976 : bits 1152921504606846976 = 60 := by decide +kernel
@[simp] theorem bits_l999999999999999999999999999999999999999999999999999999999999 : bits 999999999999999999999999999999999999999999999999999999999999 = 199 := by decide +kernel
@[simp] theorem bits_l1000000000000000000000000000000000000000000000000000000000000 : bits 1000000000000000000000000000000000000000000000000000000000000 = 199 := by decide +kernel
@[simp] theorem bits_l1999999999999999999999999999999999999999999999999999999999999 : bits 1999999999999999999999999999999999999999999999999999999999999 = 200 := by decide +kernel
@[simp] theorem bits_l2000000000000000000000000000000000000000000000000000000000000 : bits 2000000000000000000000000000000000000000000000000000000000000 = 200 := by decide +kernel
def s_l_measureB : Ss :=
sSeq (sSetF 1 (sLst (aVal (sCst (.int 2)) (aVal (sCst (.int 7)) (aVal (sCst (.int 97)) (aVal (sOp2 fPow (sCst (.int 10)) (sCst (.int 60))) (aVal (sOp2 fSub (sOp2 fPow (sCst (.int 10)) (sCst (.int 60))) (sCst (.int 1))) (aVal (sOp2 fPow (sCst (.int 2)) (sCst (.int 60))) (aNil))))))))) (
sSeq (sIf (sTest (sOp2 fGt (sOp2 fMod (sVar 0) (sCst (.int 4))) (sCst (.int 1)))) (
sRet (sOp2 fIx (sVar 1) (sOp2 fMod (sOp2 fDiv (sVar 0) (sCst (.int 4))) (sCst (.int 6))))) (sPass)) (
sSeq (sIf (sTest (sOp2 fEq (sOp2 fMod (sVar 0) (sCst (.int 4))) (sCst (.int 1)))) (
sRet (sOp2 fAdd (sCst (.int 2)) (sOp2 fMod (sOp2 fDiv (sVar 0) (sCst (.int 4))) (sOp2 fSub (sOp2 fPow (sCst (.int 10)) (sCst (.int 60))) (sCst (.int 1)))))) (sPass)) (
sRet (sOp2 fAdd (sCst (.int 2)) (sOp2 fMod (sOp2 fMul (sOp2 fAdd (sOp2 fMul (sVar 0) (sVar 0)) (sVar 0)) (sCst (.int 982451653))) (sOp2 fSub (sOp2 fPow (sCst (.int 10)) (sCst (.int 60))) (sCst (.int 1))))))))
def s_l_measure : Fn := sDef 1 2 [] s_l_measureB

def s_f_worth_of_deedB : Ss :=
sSeq (sIf (sTest (sOp2 fEq (sVar 0) (sCst (.str "sum")))) (
sRet (sOp2 fMod (sOp2 fAdd (sOp2 fIx (sVar 2) (sCst (.int 0))) (sOp2 fIx (sVar 2) (sCst (.int 1)))) (sVar 1))) (sPass)) (
sSeq (sIf (sTest (sOp2 fEq (sVar 0) (sCst (.str "less")))) (
sRet (sOp2 fMod (sOp2 fSub (sOp2 fIx (sVar 2) (sCst (.int 0))) (sOp2 fIx (sVar 2) (sCst (.int 1)))) (sVar 1))) (sPass)) (
sSeq (sIf (sTest (sOp2 fEq (sVar 0) (sCst (.str "times")))) (
sRet (sOp2 fMod (sOp2 fMul (sOp2 fIx (sVar 2) (sCst (.int 0))) (sOp2 fIx (sVar 2) (sCst (.int 1)))) (sVar 1))) (sPass)) (
sSeq (sIf (sTest (sOp2 fEq (sVar 0) (sCst (.str "least")))) (
sRet (sBlt bMinL (aVal (sVar 2) (aNil)))) (sPass)) (
sSeq (sIf (sTest (sOp2 fEq (sVar 0) (sCst (.str "most")))) (
sRet (sBlt bMaxL (aVal (sVar 2) (aNil)))) (sPass)) (
sSeq (sIf (sTest (sOp2 fEq (sOp2 fIx (sVar 2) (sCst (.int 0))) (sCst (.int 0)))) (
sRet (sOp2 fIx (sVar 2) (sCst (.int 2)))) (sPass)) (
sRet (sOp2 fIx (sVar 2) (sCst (.int 1)))))))))
def s_f_worth_of_deed : Fn := sDef 3 3 [] s_f_worth_of_deedB

def s_f_formulas_inB : Ss :=
sSeq (sIf (sTest (sOp2 fIn (sOp2 fIx (sVar 0) (sCst (.int 0))) (sTup (aVal (sCst (.str "number")) (aVal (sCst (.str "x")) (aVal (sCst (.str "y")) (aVal (sCst (.str "read")) (aNil)))))))) (
sRet (sLst (aNil))) (sPass)) (
sRet (sBlt bList (aVal (sSlice (sVar 0) (oSome (sCst (.int 1))) (oNone)) (aNil))))
def s_f_formulas_in : Fn := sDef 1 1 [] s_f_formulas_inB

def s_f_reads_ofB (rec : Fn) : Ss :=
sSeq (sIf (sTest (sOp2 fEq (sOp2 fIx (sVar 0) (sCst (.int 0))) (sCst (.str "read")))) (
sRet (sLst (aVal (sTup (aVal (sOp2 fIx (sVar 0) (sCst (.int 1))) (aVal (sOp2 fIx (sVar 0) (sCst (.int 2))) (aVal (sOp2 fIx (sVar 0) (sCst (.int 3))) (aNil))))) (aNil)))) (sPass)) (
sSeq (sSet 1 (sLst (aNil))) (
sSeq (sFor (iList (sCall s_f_formulas_in (aVal (sVar 0) (aNil)))) (gName 2) (
sExpr (sMeth 1 mExtend (aVal (sCall rec (aVal (sVar 2) (aNil))) (aNil))))) (
sRet (sMv 1))))
def s_f_reads_of : Nat → Fn
  | 0 => fun _ => .no
  | n + 1 => sDef 1 3 [] (s_f_reads_ofB (s_f_reads_of n))

def s_f_worthB (rec : Fn) : Ss :=
sSeq (sIf (sTest (sOp2 fEq (sOp2 fIx (sVar 0) (sCst (.int 0))) (sCst (.str "number")))) (
sRet (sOp2 fMod (sOp2 fIx (sVar 0) (sCst (.int 1))) (sVar 1))) (sPass)) (
sSeq (sIf (sTest (sOp2 fEq (sOp2 fIx (sVar 0) (sCst (.int 0))) (sCst (.str "x")))) (
sRet (sOp2 fMod (sVar 2) (sVar 1))) (sPass)) (
sSeq (sIf (sTest (sOp2 fEq (sOp2 fIx (sVar 0) (sCst (.int 0))) (sCst (.str "y")))) (
sRet (sOp2 fMod (sVar 3) (sVar 1))) (sPass)) (
sSeq (sIf (sTest (sOp2 fEq (sOp2 fIx (sVar 0) (sCst (.int 0))) (sCst (.str "read")))) (
sRet (sOp2 fMod (sOp2 fIx (sVar 4) (sCst (.int 0))) (sVar 1))) (sPass)) (
sSeq (sSet 5 (sLst (aNil))) (
sSeq (sSetF 6 (sCst (.int 0))) (
sSeq (sFor (iTup (sSlice (sVar 0) (oSome (sCst (.int 1))) (oNone))) (gName 7) (
sSeq (sSetF 8 (sBlt bLen (aVal (sCall (s_f_reads_of 12) (aVal (sVar 7) (aNil))) (aNil)))) (
sSeq (sExpr (sMeth 5 mAppend (aVal (sCall rec (aVal (sVar 7) (aVal (sVar 1) (aVal (sVar 2) (aVal (sVar 3) (aVal (sSlice (sVar 4) (oSome (sVar 6)) (oSome (sOp2 fAdd (sVar 6) (sVar 8)))) (aNil))))))) (aNil)))) (
sAug 6 fAddI (sVar 8))))) (
sRet (sCall s_f_worth_of_deed (aVal (sOp2 fIx (sVar 0) (sCst (.int 0))) (aVal (sVar 1) (aVal (sVar 5) (aNil))))))))))))
def s_f_worth : Nat → Fn
  | 0 => fun _ => .no
  | n + 1 => sDef 5 9 [] (s_f_worthB (s_f_worth n))

def s_l_wholeB : Ss :=
sRet (sAndV (sUn (fIsi .int) (sVar 0)) (sNotV (sUn (fIsi .bl) (sVar 0))))
def s_l_whole : Fn := sDef 1 1 [] s_l_wholeB

def s_l_right2B : Ss :=
sSeq (sSetF 5 (sBlt bList (aVal (sVar 3) (aNil)))) (
sSeq (sSetF 6 (sCall (s_f_worth 12) (aVal (sVar 0) (aVal (sVar 1) (aVal (sOp2 fIx (sVar 2) (sCst (.int 0))) (aVal (sOp2 fIx (sVar 2) (sCst (.int 1))) (aVal (sVar 5) (aNil)))))))) (
sRet (sAndV (sCall s_l_whole (aVal (sVar 6) (aNil))) (sAndV (sOp2 fEq (sVar 6) (sVar 4)) (sOp2 fEq (sVar 5) (sVar 3))))))
def s_l_right2 : Fn := sDef 5 7 [] s_l_right2B

def s_l_drawn_atB : Ss :=
sSeq (sIf (sTest (sOp2 fLt (sVar 1) (sBlt bLen (aVal (sVar 0) (aNil))))) (
sRet (sOp2 fIx (sVar 0) (sVar 1))) (sPass)) (
sRet (sCst (.int 0)))
def s_l_drawn_at : Fn := sDef 2 2 [] s_l_drawn_atB

def s_l_signedB : Ss :=
sSeq (sIf (sTest (sOp2 fEq (sOp2 fMod (sVar 0) (sCst (.int 4))) (sCst (.int 0)))) (
sRet (sOp2 fSub (sOp2 fMod (sOp2 fDiv (sVar 0) (sCst (.int 4))) (sCst (.int 25))) (sCst (.int 12)))) (sPass)) (
sSeq (sIf (sTest (sOp2 fEq (sOp2 fMod (sVar 0) (sCst (.int 4))) (sCst (.int 1)))) (
sRet (sOp2 fSub (sOp2 fMod (sOp2 fDiv (sVar 0) (sCst (.int 4))) (sOp2 fSub (sOp2 fMul (sCst (.int 2)) (sOp2 fPow (sCst (.int 10)) (sCst (.int 60)))) (sCst (.int 1)))) (sOp2 fSub (sOp2 fPow (sCst (.int 10)) (sCst (.int 60))) (sCst (.int 1))))) (sPass)) (
sSeq (sSetF 1 (sOp2 fMod (sOp2 fMul (sOp2 fAdd (sOp2 fAdd (sOp2 fMul (sVar 0) (sVar 0)) (sVar 0)) (sCst (.int 1))) (sCst (.int 982451653))) (sOp2 fAdd (sOp2 fPow (sCst (.int 10)) (sCst (.int 18))) (sCst (.int 9))))) (
sRet (sOp2 fSub (sOp2 fMod (sOp2 fMul (sOp2 fMul (sOp2 fMul (sVar 1) (sVar 1)) (sVar 1)) (sCst (.int 982451653))) (sOp2 fSub (sOp2 fMul (sCst (.int 2)) (sOp2 fPow (sCst (.int 10)) (sCst (.int 60)))) (sCst (.int 1)))) (sOp2 fSub (sOp2 fPow (sCst (.int 10)) (sCst (.int 60))) (sCst (.int 1)))))))
def s_l_signed : Fn := sDef 1 2 [] s_l_signedB

def s_l_law5B : Ss :=
sSeq (sSetF 1 (sCall s_l_measure (aVal (sCall s_l_drawn_at (aVal (sVar 0) (aVal (sCst (.int 0)) (aNil)))) (aNil)))) (
sSeq (sSetF 2 (sLst (aVal (sCall s_l_signed (aVal (sCall s_l_drawn_at (aVal (sVar 0) (aVal (sCst (.int 1)) (aNil)))) (aNil))) (aVal (sCall s_l_signed (aVal (sCall s_l_drawn_at (aVal (sVar 0) (aVal (sCst (.int 2)) (aNil)))) (aNil))) (aNil))))) (
sSeq (sSetF 3 (sTup (aVal (sCst (.str "read")) (aVal (sCst (.str "a")) (aVal (sCst (.int 1)) (aVal (sUn fNeg (sCst (.int 2))) (aNil))))))) (
sSeq (sFor (iRange rng1 (aVal (sBlt bLen (aVal (sVar 0) (aNil))) (aNil))) (gName 4) (
sSeq (sSetF 5 (sCall s_l_signed (aVal (sOp2 fIx (sVar 0) (sVar 4)) (aNil)))) (
sSeq (sSetF 6 (sCall s_l_signed (aVal (sOp2 fIx (sVar 0) (sOp2 fSub (sVar 4) (sCst (.int 1)))) (aNil)))) (
sSeq (sSetF 7 (sCall s_l_signed (aVal (sOp2 fIx (sVar 0) (sOp2 fMod (sOp2 fSub (sVar 4) (sCst (.int 2))) (sBlt bLen (aVal (sVar 0) (aNil))))) (aNil)))) (
sSeq (sIf (sTest (sOp2 fEq (sOp2 fMod (sOp2 fIx (sVar 0) (sVar 4)) (sCst (.int 4))) (sCst (.int 1)))) (
sSetF 5 (sCst (.int 0))) (sPass)) (
sSeq (sSetF 8 (sLst (aVal (sOp2 fMod (sVar 5) (sVar 1)) (aVal (sOp2 fMod (sVar 6) (sVar 1)) (aVal (sOp2 fMod (sVar 7) (sVar 1)) (aNil)))))) (
sSeq (sFor (iList (sLst (aVal (sTup (aVal (sCst (.str "sum")) (aVal (sOp2 fAdd (sVar 5) (sVar 6)) (aNil)))) (aVal (sTup (aVal (sCst (.str "less")) (aVal (sOp2 fSub (sVar 5) (sVar 6)) (aNil)))) (aVal (sTup (aVal (sCst (.str "times")) (aVal (sOp2 fMul (sVar 5) (sVar 6)) (aNil)))) (aNil)))))) (gTup [gName 9, gName 10]) (
sIf (bNot (sTest (sCall s_l_right2 (aVal (sTup (aVal (sVar 9) (aVal (sVar 3) (aVal (sVar 3) (aNil))))) (aVal (sVar 1) (aVal (sVar 2) (aVal (sLst (aVal (sVar 5) (aVal (sVar 6) (aNil)))) (aVal (sOp2 fMod (sVar 10) (sVar 1)) (aNil))))))))) (
sRet (sCst (.bl false))) (sPass))) (
sSeq (sIf (bNot (sTest (sCall s_l_right2 (aVal (sTup (aVal (sCst (.str "least")) (aVal (sVar 3) (aVal (sVar 3) (aNil))))) (aVal (sVar 1) (aVal (sVar 2) (aVal (sLst (aVal (sVar 5) (aVal (sVar 6) (aNil)))) (aVal (sBlt bMinL (aVal (sSlice (sVar 8) (oNone) (oSome (sCst (.int 2)))) (aNil))) (aNil))))))))) (
sRet (sCst (.bl false))) (sPass)) (
sSeq (sIf (bNot (sTest (sCall s_l_right2 (aVal (sTup (aVal (sCst (.str "most")) (aVal (sVar 3) (aVal (sVar 3) (aNil))))) (aVal (sVar 1) (aVal (sVar 2) (aVal (sLst (aVal (sVar 5) (aVal (sVar 6) (aNil)))) (aVal (sBlt bMaxL (aVal (sSlice (sVar 8) (oNone) (oSome (sCst (.int 2)))) (aNil))) (aNil))))))))) (
sRet (sCst (.bl false))) (sPass)) (
sSeq (sSetF 10 (sOp2 fIx (sVar 8) (sCst (.int 1)))) (
sSeq (sIf (sTest (sOp2 fEq (sOp2 fIx (sVar 8) (sCst (.int 0))) (sCst (.int 0)))) (
sSetF 10 (sOp2 fIx (sVar 8) (sCst (.int 2)))) (sPass)) (
sSeq (sIf (bNot (sTest (sCall s_l_right2 (aVal (sTup (aVal (sCst (.str "pick")) (aVal (sVar 3) (aVal (sVar 3) (aVal (sVar 3) (aNil)))))) (aVal (sVar 1) (aVal (sVar 2) (aVal (sLst (aVal (sVar 5) (aVal (sVar 6) (aVal (sVar 7) (aNil))))) (aVal (sVar 10) (aNil))))))))) (
sRet (sCst (.bl false))) (sPass)) (
sSeq (sIf (bNot (sTest (sCall s_l_right2 (aVal (sTup (aVal (sCst (.str "less")) (aVal (sTup (aVal (sCst (.str "x")) (aNil))) (aVal (sVar 3) (aNil))))) (aVal (sVar 1) (aVal (sVar 2) (aVal (sLst (aVal (sVar 5) (aNil))) (aVal (sOp2 fMod (sOp2 fSub (sOp2 fIx (sVar 2) (sCst (.int 0))) (sVar 5)) (sVar 1)) (aNil))))))))) (
sRet (sCst (.bl false))) (sPass)) (
sSeq (sIf (bNot (sTest (sCall s_l_right2 (aVal (sTup (aVal (sCst (.str "sum")) (aVal (sVar 3) (aVal (sTup (aVal (sCst (.str "y")) (aNil))) (aNil))))) (aVal (sVar 1) (aVal (sVar 2) (aVal (sLst (aVal (sVar 6) (aNil))) (aVal (sOp2 fMod (sOp2 fAdd (sOp2 fIx (sVar 2) (sCst (.int 1))) (sVar 6)) (sVar 1)) (aNil))))))))) (
sRet (sCst (.bl false))) (sPass)) (
sIf (bNot (sTest (sCall s_l_right2 (aVal (sTup (aVal (sCst (.str "number")) (aVal (sBlt bAbs (aVal (sVar 7) (aNil))) (aNil)))) (aVal (sVar 1) (aVal (sVar 2) (aVal (sLst (aNil)) (aVal (sOp2 fMod (sBlt bAbs (aVal (sVar 7) (aNil))) (sVar 1)) (aNil))))))))) (
sRet (sCst (.bl false))) (sPass)))))))))))))))) (
sSeq (sIf (bNot (sTest (sCall s_l_right2 (aVal (sTup (aVal (sCst (.str "x")) (aNil))) (aVal (sVar 1) (aVal (sVar 2) (aVal (sLst (aNil)) (aVal (sOp2 fMod (sOp2 fIx (sVar 2) (sCst (.int 0))) (sVar 1)) (aNil))))))))) (
sRet (sCst (.bl false))) (sPass)) (
sRet (sCall s_l_right2 (aVal (sVar 3) (aVal (sVar 1) (aVal (sVar 2) (aVal (sLst (aVal (sUn fNeg (sCst (.int 1))) (aNil))) (aVal (sOp2 fSub (sVar 1) (sCst (.int 1))) (aNil))))))))))))
def s_l_law5 : Fn := sDef 1 11 [] s_l_law5B

def s_l_namesB : Ss :=
sSeq (sSetF 2 (sCst (.str "abcdefghijklmnopqrstuvwxyz"))) (
sSeq (sSetF 3 (sOp2 fMul (sOp2 fAdd (sOp2 fAdd (sOp2 fMul (sVar 0) (sVar 0)) (sVar 0)) (sCst (.int 1))) (sCst (.int 982451653)))) (
sSeq (sSetF 4 (sOp2 fAdd (sCst (.int 1)) (sOp2 fMod (sVar 3) (sCst (.int 12))))) (
sSeq (sSetF 5 (sOp2 fMod (sOp2 fDiv (sVar 3) (sCst (.int 12))) (sVar 4))) (
sSeq (sSetF 6 (sLC [7] (iRange rng1 (aVal (sVar 4) (aNil))) (gName 7) (bYes) (sOp2 fIx (sVar 2) (sOp2 fMod (sOp2 fAdd (sOp2 fDiv (sVar 3) (sOp2 fAdd (sVar 7) (sCst (.int 5)))) (sOp2 fMul (sVar 7) (sVar 7))) (sCst (.int 26)))))) (
sSeq (sSetF 8 (sOp2 fIx (sLst (aVal (sCst (.int 1)) (aVal (sCst (.int 3)) (aVal (sCst (.int 5)) (aVal (sCst (.int 7)) (aVal (sCst (.int 9)) (aVal (sCst (.int 11)) (aNil)))))))) (sOp2 fMod (sOp2 fDiv (sVar 3) (sCst (.int 144))) (sCst (.int 6))))) (
sSeq (sSet 9 (sLst (aNil))) (
sSeq (sFor (iRange rng1 (aVal (sVar 1) (aNil))) (gName 7) (
sSeq (sSetF 10 (sOp2 fIx (sVar 2) (sOp2 fMod (sOp2 fAdd (sOp2 fDiv (sVar 3) (sCst (.int 864))) (sOp2 fMul (sVar 7) (sVar 8))) (sCst (.int 26))))) (
sIf (sTest (sOp2 fEq (sOp2 fMod (sOp2 fDiv (sVar 3) (sCst (.int 900))) (sCst (.int 3))) (sCst (.int 1)))) (
sExpr (sMeth 9 mAppend (aVal (sOp2 fMul (sOp2 fIx (sVar 6) (sCst (.int 0))) (sOp2 fAdd (sOp2 fMod (sOp2 fAdd (sVar 7) (sOp2 fDiv (sVar 3) (sCst (.int 7)))) (sCst (.int 12))) (sCst (.int 1)))) (aNil)))) (sExpr (sMeth 9 mAppend (aVal (sOp2 fAdd (sOp2 fAdd (sStr1 fJoin (sCst (.str "")) (sSlice (sVar 6) (oNone) (oSome (sVar 5)))) (sVar 10)) (sStr1 fJoin (sCst (.str "")) (sSlice (sVar 6) (oSome (sOp2 fAdd (sVar 5) (sCst (.int 1)))) (oNone)))) (aNil))))))) (
sRet (sMv 9)))))))))
def s_l_names : Fn := sDef 2 11 [] s_l_namesB

def s_l_numberB : Ss :=
sSeq (sIf (sTest (sOp2 fEq (sOp2 fMod (sVar 0) (sCst (.int 4))) (sCst (.int 0)))) (
sRet (sOp2 fMod (sOp2 fDiv (sVar 0) (sCst (.int 4))) (sCst (.int 13)))) (sPass)) (
sSeq (sIf (sTest (sOp2 fEq (sOp2 fMod (sVar 0) (sCst (.int 4))) (sCst (.int 1)))) (
sRet (sOp2 fMod (sOp2 fDiv (sVar 0) (sCst (.int 4))) (sOp2 fPow (sCst (.int 10)) (sCst (.int 60))))) (sPass)) (
sSeq (sSetF 1 (sOp2 fMod (sOp2 fMul (sOp2 fAdd (sOp2 fAdd (sOp2 fMul (sVar 0) (sVar 0)) (sVar 0)) (sCst (.int 1))) (sCst (.int 982451653))) (sOp2 fAdd (sOp2 fPow (sCst (.int 10)) (sCst (.int 18))) (sCst (.int 9))))) (
sRet (sOp2 fMod (sOp2 fMul (sOp2 fMul (sOp2 fMul (sVar 1) (sVar 1)) (sVar 1)) (sCst (.int 982451653))) (sOp2 fPow (sCst (.int 10)) (sCst (.int 60)))))))
def s_l_number : Fn := sDef 1 2 [] s_l_numberB

def s_l_leafB : Ss :=
sSeq (sSetF 3 (sOp2 fMod (sVar 1) (sCst (.int 8)))) (
sSeq (sIf (sViewB (bAnd (sTest (sOp2 fEq (sVar 3) (sCst (.int 0)))) (bAnd (sTest (sOp2 fEq (sOp2 fMod (sOp2 fDiv (sVar 1) (sCst (.int 8))) (sCst (.int 3))) (sCst (.int 1)))) (sTest (sOp2 fGt (sBlt bLen (aVal (sVar 2) (aNil))) (sCst (.int 60))))))) (
sSeq (sSetF 4 (sCst (.int 0))) (
sSeq (sFor (iRange rng1 (aVal (sCst (.int 10)) (aNil))) (gName 5) (
sSetF 4 (sOp2 fAdd (sOp2 fMul (sVar 4) (sCst (.int 1000003))) (sMeth 2 mPop aNil)))) (
sRet (sTup (aVal (sCst (.str "number")) (aVal (sOp2 fMod (sVar 4) (sOp2 fPow (sCst (.int 10)) (sCst (.int 60)))) (aNil))))))) (sPass)) (
sSeq (sIf (sTest (sOp2 fEq (sVar 3) (sCst (.int 0)))) (
sRet (sTup (aVal (sCst (.str "number")) (aVal (sCall s_l_number (aVal (sOp2 fDiv (sVar 1) (sCst (.int 8))) (aNil))) (aNil))))) (sPass)) (
sSeq (sIf (sTest (sOp2 fLt (sVar 3) (sCst (.int 3)))) (
sRet (sOp2 fIx (sLst (aVal (sTup (aVal (sCst (.str "x")) (aNil))) (aVal (sTup (aVal (sCst (.str "y")) (aNil))) (aNil)))) (sOp2 fSub (sVar 3) (sCst (.int 1))))) (sPass)) (
sSeq (sSetF 6 (sOp2 fIx (sVar 0) (sOp2 fSub (sUn fNeg (sCst (.int 1))) (sOp2 fMod (sOp2 fDiv (sVar 1) (sCst (.int 8))) (sBlt bLen (aVal (sVar 0) (aNil))))))) (
sSeq (sIf (sTest (sOp2 fLt (sVar 3) (sCst (.int 6)))) (
sSetF 6 (sOp2 fIx (sVar 0) (sOp2 fSub (sUn fNeg (sCst (.int 1))) (sOp2 fMod (sOp2 fDiv (sVar 1) (sCst (.int 8))) (sBlt bMin2 (aVal (sCst (.int 2)) (aVal (sBlt bLen (aVal (sVar 0) (aNil))) (aNil)))))))) (sPass)) (
sRet (sTup (aVal (sCst (.str "read")) (aVal (sVar 6) (aVal (sOp2 fSub (sOp2 fMod (sOp2 fDiv (sVar 1) (sCst (.int 100))) (sCst (.int 7))) (sCst (.int 3))) (aVal (sOp2 fSub (sOp2 fMod (sOp2 fDiv (sVar 1) (sCst (.int 700))) (sCst (.int 7))) (sCst (.int 3))) (aNil))))))))))))
def s_l_leaf : Fn := sDef 3 7 [2] s_l_leafB

def s_l_formulaB (rec : Fn) : Ss :=
sSeq (sSetF 3 (sMeth 1 mPop aNil)) (
sSeq (sIf (bOr (sTest (sOp2 fEq (sVar 2) (sCst (.int 0)))) (sTest (sOp2 fLt (sOp2 fMod (sVar 3) (sCst (.int 5))) (sCst (.int 2))))) (
sRet (sCall s_l_leaf (aVal (sVar 0) (aVal (sOp2 fDiv (sVar 3) (sCst (.int 5))) (aLend 1 (aNil)))))) (sPass)) (
sSeq (sSetF 4 (sOp2 fIx (sLst (aVal (sCst (.str "sum")) (aVal (sCst (.str "less")) (aVal (sCst (.str "times")) (aVal (sCst (.str "least")) (aVal (sCst (.str "most")) (aVal (sCst (.str "pick")) (aNil)))))))) (sOp2 fMod (sOp2 fDiv (sVar 3) (sCst (.int 5))) (sCst (.int 6))))) (
sSeq (sSet 5 (sLst (aNil))) (
sSeq (sFor (iRange rng1 (aVal (sOp2 fAdd (sCst (.int 2)) (sBlt bInt (aVal (sOp2 fEq (sVar 4) (sCst (.str "pick"))) (aNil)))) (aNil))) (gName 6) (
sExpr (sMeth 5 mAppend (aVal (sCall rec (aVal (sVar 0) (aLend 1 (aVal (sOp2 fSub (sVar 2) (sCst (.int 1))) (aNil))))) (aNil))))) (
sRet (sOp2 fAdd (sTup (aVal (sVar 4) (aNil))) (sBlt bTuple (aVal (sVar 5) (aNil)))))))))
def s_l_formula : Nat → Fn
  | 0 => fun _ => .no
  | n + 1 => sDef 3 7 [1] (s_l_formulaB (s_l_formula n))

def s_l_grownB : Ss :=
sSeq (sSetF 2 (sCall (s_l_formula 12) (aVal (sVar 0) (aLend 1 (aVal (sCst (.int 3)) (aNil)))))) (
sSeq (sFor (iRange rng1 (aVal (sOp2 fMod (sMeth 1 mPop aNil) (sCst (.int 5))) (aNil))) (gName 3) (
sSeq (sSetF 4 (sMeth 1 mPop aNil)) (
sSeq (sSetF 5 (sCall s_l_leaf (aVal (sVar 0) (aVal (sOp2 fDiv (sVar 4) (sCst (.int 10))) (aLend 1 (aNil)))))) (
sSeq (sSetF 6 (sOp2 fIx (sLst (aVal (sCst (.str "sum")) (aVal (sCst (.str "less")) (aVal (sCst (.str "times")) (aVal (sCst (.str "least")) (aVal (sCst (.str "most")) (aNil))))))) (sOp2 fMod (sVar 4) (sCst (.int 5))))) (
sSetF 2 (sOp2 fIx (sLst (aVal (sTup (aVal (sVar 6) (aVal (sVar 5) (aVal (sVar 2) (aNil))))) (aVal (sTup (aVal (sVar 6) (aVal (sVar 2) (aVal (sVar 5) (aNil))))) (aNil)))) (sOp2 fMod (sOp2 fDiv (sVar 4) (sCst (.int 5))) (sCst (.int 2))))))))) (
sRet (sVar 2)))
def s_l_grown : Fn := sDef 2 7 [1] s_l_grownB

def s_l_readsB : Ss :=
sSeq (sSet 1 (sLst (aNil))) (
sSeq (sSet 2 (sLst (aVal (sVar 0) (aNil)))) (
sSeq (loopW (sViewB (sTest (sOp2 fNe (sVar 2) (sLst (aNil))))) (
sSeq (sSetF 3 (sMeth 2 mPop aNil)) (
sIf (sTest (sOp2 fEq (sOp2 fIx (sVar 3) (sCst (.int 0))) (sCst (.str "read")))) (
sExpr (sMeth 1 mAppend (aVal (sSlice (sVar 3) (oSome (sCst (.int 1))) (oNone)) (aNil)))) (sIf (sTest (sOp2 fNotIn (sOp2 fIx (sVar 3) (sCst (.int 0))) (sTup (aVal (sCst (.str "number")) (aVal (sCst (.str "x")) (aVal (sCst (.str "y")) (aNil))))))) (
sExpr (sMeth 2 mExtend (aVal (sUn fRev (sSlice (sVar 3) (oSome (sCst (.int 1))) (oNone))) (aNil)))) (sPass)))) 100000) (
sRet (sMv 1))))
def s_l_reads : Fn := sDef 1 4 [] s_l_readsB

def s_l_digits2B : Ss :=
sSeq (sSetF 3 (sBlt bSum (aVal (sLC [4] (iRange rng3 (aVal (sVar 1) (aVal (sBlt bMin2 (aVal (sBlt bLen (aVal (sVar 0) (aNil))) (aVal (sCst (.int 63)) (aNil)))) (aVal (sVar 2) (aNil))))) (gName 4) (bYes) (sOp2 fIx (sVar 0) (sVar 4))) (aNil)))) (
sSeq (sSet 5 (sLst (aNil))) (
sSeq (sSetF 6 (sOp2 fMod (sVar 3) (sCst (.int 2147483629)))) (
sSeq (sSetF 7 (sOp2 fDiv (sVar 3) (sCst (.int 2)))) (
sSeq (sFor (iRange rng1 (aVal (sCst (.int 120)) (aNil))) (gName 4) (
sSeq (sSetF 6 (sOp2 fMod (sOp2 fAdd (sOp2 fAdd (sOp2 fMul (sVar 6) (sVar 6)) (sVar 3)) (sVar 4)) (sCst (.int 2147483629)))) (
sSeq (sExpr (sMeth 5 mAppend (aVal (sOp2 fMod (sOp2 fIx (sLst (aVal (sVar 7) (aVal (sOp2 fMod (sOp2 fMul (sVar 6) (sVar 6)) (sCst (.int 2147483587))) (aNil)))) (sOp2 fMod (sVar 3) (sCst (.int 2)))) (sCst (.int 1000003))) (aNil)))) (
sSetF 7 (sOp2 fDiv (sVar 7) (sCst (.int 1000003))))))) (
sRet (sUn fRev (sVar 5)))))))
def s_l_digits2 : Fn := sDef 3 8 [] s_l_digits2B

def s_l_right3B : Ss :=
sSeq (sIf (bOr (bNot (sTest (sUn (fIsi .lst) (sVar 0)))) (sTest (sOp2 fNe (sBlt bLen (aVal (sVar 0) (aNil))) (sBlt bLen (aVal (sVar 1) (aNil)))))) (
sRet (sCst (.bl false))) (sPass)) (
sSeq (sFor (iList (sVar 0)) (gName 2) (
sSeq (sIf (bOr (bNot (sTest (sUn (fIsi .tup) (sVar 2)))) (bOr (sTest (sOp2 fNe (sBlt bLen (aVal (sVar 2) (aNil))) (sCst (.int 3)))) (bNot (sTest (sUn (fIsi .str) (sOp2 fIx (sVar 2) (sCst (.int 0)))))))) (
sRet (sCst (.bl false))) (sPass)) (
sIf (bOr (bNot (sTest (sCall s_l_whole (aVal (sOp2 fIx (sVar 2) (sCst (.int 1))) (aNil))))) (bNot (sTest (sCall s_l_whole (aVal (sOp2 fIx (sVar 2) (sCst (.int 2))) (aNil)))))) (
sRet (sCst (.bl false))) (sPass)))) (
sRet (sOp2 fEq (sVar 0) (sVar 1))))
def s_l_right3 : Fn := sDef 2 3 [] s_l_right3B

def s_l_law6B : Ss :=
sSeq (sSetF 1 (sCall s_l_names (aVal (sCall s_l_drawn_at (aVal (sVar 0) (aVal (sCst (.int 0)) (aNil)))) (aVal (sCst (.int 5)) (aNil))))) (
sSeq (sFor (iRange rng1 (aVal (sCst (.int 3)) (aNil))) (gName 2) (
sSeq (sSetF 3 (sCall s_l_grown (aVal (sVar 1) (aVal (sCall s_l_digits2 (aVal (sVar 0) (aVal (sVar 2) (aVal (sCst (.int 3)) (aNil))))) (aNil))))) (
sSeq (sSetF 4 (sCall s_l_reads (aVal (sVar 3) (aNil)))) (
sSeq (sSet 5 (sCall (s_f_reads_of 12) (aVal (sVar 3) (aNil)))) (
sSeq (sIf (sViewB (bNot (sTest (sCall s_l_right3 (aVal (sVar 5) (aVal (sVar 4) (aNil))))))) (
sRet (sCst (.bl false))) (sPass)) (
sSeq (sExpr (sMeth 5 mAppend (aVal (sTup (aVal (sCst (.str "a")) (aVal (sCst (.int 0)) (aVal (sCst (.int 0)) (aNil))))) (aNil)))) (
sIf (bNot (sTest (sCall s_l_right3 (aVal (sCall (s_f_reads_of 12) (aVal (sVar 3) (aNil))) (aVal (sVar 4) (aNil)))))) (
sRet (sCst (.bl false))) (sPass)))))))) (
sRet (sOp2 fEq (sCall (s_f_reads_of 12) (aVal (sTup (aVal (sCst (.str "read")) (aVal (sOp2 fIx (sVar 1) (sCst (.int 0))) (aVal (sUn fNeg (sCst (.int 3))) (aVal (sCst (.int 3)) (aNil)))))) (aNil))) (sLst (aVal (sTup (aVal (sOp2 fIx (sVar 1) (sCst (.int 0))) (aVal (sUn fNeg (sCst (.int 3))) (aVal (sCst (.int 3)) (aNil))))) (aNil))))))
def s_l_law6 : Fn := sDef 1 6 [] s_l_law6B

def s_l_worthB (rec : Fn) : Ss :=
sSeq (sIf (sTest (sOp2 fEq (sOp2 fIx (sVar 0) (sCst (.int 0))) (sCst (.str "number")))) (
sRet (sOp2 fMod (sOp2 fIx (sVar 0) (sCst (.int 1))) (sVar 1))) (sPass)) (
sSeq (sIf (sTest (sOp2 fEq (sOp2 fIx (sVar 0) (sCst (.int 0))) (sCst (.str "x")))) (
sRet (sOp2 fMod (sVar 2) (sVar 1))) (sPass)) (
sSeq (sIf (sTest (sOp2 fEq (sOp2 fIx (sVar 0) (sCst (.int 0))) (sCst (.str "y")))) (
sRet (sOp2 fMod (sVar 3) (sVar 1))) (sPass)) (
sSeq (sIf (sTest (sOp2 fEq (sOp2 fIx (sVar 0) (sCst (.int 0))) (sCst (.str "read")))) (
sRet (sOp2 fMod (sMeth 4 mPop0 (aVal (sCst (.int 0)) (aNil))) (sVar 1))) (sPass)) (
sSeq (sSetF 5 (sLC [6] (iTup (sSlice (sVar 0) (oSome (sCst (.int 1))) (oNone))) (gName 6) (bYes) (sCall rec (aVal (sVar 6) (aVal (sVar 1) (aVal (sVar 2) (aVal (sVar 3) (aLend 4 (aNil))))))))) (
sSeq (sIf (sTest (sOp2 fEq (sOp2 fIx (sVar 0) (sCst (.int 0))) (sCst (.str "sum")))) (
sRet (sOp2 fMod (sOp2 fAdd (sOp2 fIx (sVar 5) (sCst (.int 0))) (sOp2 fIx (sVar 5) (sCst (.int 1)))) (sVar 1))) (sPass)) (
sSeq (sIf (sTest (sOp2 fEq (sOp2 fIx (sVar 0) (sCst (.int 0))) (sCst (.str "less")))) (
sRet (sOp2 fMod (sOp2 fSub (sOp2 fIx (sVar 5) (sCst (.int 0))) (sOp2 fIx (sVar 5) (sCst (.int 1)))) (sVar 1))) (sPass)) (
sSeq (sIf (sTest (sOp2 fEq (sOp2 fIx (sVar 0) (sCst (.int 0))) (sCst (.str "times")))) (
sRet (sOp2 fMod (sOp2 fMul (sOp2 fIx (sVar 5) (sCst (.int 0))) (sOp2 fIx (sVar 5) (sCst (.int 1)))) (sVar 1))) (sPass)) (
sSeq (sIf (sTest (sOp2 fEq (sOp2 fIx (sVar 0) (sCst (.int 0))) (sCst (.str "pick")))) (
sRet (sOp2 fIx (sLst (aVal (sOp2 fIx (sVar 5) (sCst (.int 1))) (aVal (sOp2 fIx (sVar 5) (sCst (.int 2))) (aNil)))) (sBlt bInt (aVal (sOp2 fEq (sOp2 fIx (sVar 5) (sCst (.int 0))) (sCst (.int 0))) (aNil))))) (sPass)) (
sSeq (sSetF 5 (sBlt bSorted (aVal (sVar 5) (aNil)))) (
sRet (sOp2 fIx (sVar 5) (sBlt bInt (aVal (sOp2 fEq (sOp2 fIx (sVar 0) (sCst (.int 0))) (sCst (.str "most"))) (aNil))))))))))))))
def s_l_worth : Nat → Fn
  | 0 => fun _ => .no
  | n + 1 => sDef 5 7 [4] (s_l_worthB (s_l_worth n))

def s_l_law7B : Ss :=
sSeq (sSetF 1 (sCall s_l_measure (aVal (sCall s_l_drawn_at (aVal (sVar 0) (aVal (sCst (.int 0)) (aNil)))) (aNil)))) (
sSeq (sSetF 2 (sCall s_l_names (aVal (sCall s_l_drawn_at (aVal (sVar 0) (aVal (sCst (.int 1)) (aNil)))) (aVal (sCst (.int 5)) (aNil))))) (
sSeq (sFor (iRange rng1 (aVal (sCst (.int 3)) (aNil))) (gName 3) (
sSeq (sSetF 4 (sCall s_l_grown (aVal (sVar 2) (aVal (sCall s_l_digits2 (aVal (sVar 0) (aVal (sVar 3) (aVal (sCst (.int 3)) (aNil))))) (aNil))))) (
sSeq (sSetF 5 (sOp2 fSub (sOp2 fMod (sCall s_l_drawn_at (aVal (sVar 0) (aVal (sOp2 fAdd (sVar 3) (sCst (.int 1))) (aNil)))) (sCst (.int 301))) (sCst (.int 100)))) (
sSeq (sSetF 6 (sCall s_l_signed (aVal (sCall s_l_drawn_at (aVal (sVar 0) (aVal (sOp2 fAdd (sVar 3) (sCst (.int 2))) (aNil)))) (aNil)))) (
sSeq (sSet 7 (sLst (aNil))) (
sSeq (sFor (iRange rng1 (aVal (sBlt bLen (aVal (sCall s_l_reads (aVal (sVar 4) (aNil))) (aNil))) (aNil))) (gName 8) (
sSeq (sSetF 9 (sCall s_l_drawn_at (aVal (sVar 0) (aVal (sOp2 fMod (sOp2 fAdd (sOp2 fMul (sVar 8) (sOp2 fAdd (sVar 3) (sCst (.int 1)))) (sVar 3)) (sBlt bMax2 (aVal (sCst (.int 1)) (aVal (sBlt bLen (aVal (sVar 0) (aNil))) (aNil))))) (aNil))))) (
sExpr (sMeth 7 mAppend (aVal (sCall s_l_signed (aVal (sOp2 fAdd (sVar 9) (sVar 8)) (aNil))) (aNil)))))) (
sSeq (sSetF 10 (sBlt bList (aVal (sVar 7) (aNil)))) (
sSeq (sSetF 11 (sCall (s_f_worth 12) (aVal (sVar 4) (aVal (sVar 1) (aVal (sVar 5) (aVal (sVar 6) (aVal (sVar 10) (aNil)))))))) (
sSeq (sIf (sViewB (bOr (bNot (sTest (sCall s_l_whole (aVal (sVar 11) (aNil))))) (sTest (sOp2 fNe (sVar 10) (sVar 7))))) (
sRet (sCst (.bl false))) (sPass)) (
sIf (sViewB (sTest (sOp2 fNe (sVar 11) (sCall (s_l_worth 12) (aVal (sVar 4) (aVal (sVar 1) (aVal (sVar 5) (aVal (sVar 6) (aVal (sBlt bList (aVal (sVar 7) (aNil))) (aNil)))))))))) (
sRet (sCst (.bl false))) (sPass))))))))))) (
sRet (sCst (.bl true)))))
def s_l_law7 : Fn := sDef 1 12 [] s_l_law7B
end G
set_option Elab.async false
set_option linter.all false
set_option maxRecDepth 100000
namespace G
open PySem PySem.Builtin.Int
inductive W2 where
  | sum | less | times | least | most
def W2.s : W2 → Str
  | .sum => "sum"
  | .less => "less"
  | .times => "times"
  | .least => "least"
  | .most => "most"
@[simp] theorem s_number (w : W2) : (w.s = Str.ofString "number") = False := by cases w <;> simp [W2.s]
@[simp] theorem s_x (w : W2) : (w.s = Str.ofString "x") = False := by cases w <;> simp [W2.s]
@[simp] theorem s_y (w : W2) : (w.s = Str.ofString "y") = False := by cases w <;> simp [W2.s]
@[simp] theorem s_read (w : W2) : (w.s = Str.ofString "read") = False := by cases w <;> simp [W2.s]
@[simp] theorem s_pick (w : W2) : (w.s = Str.ofString "pick") = False := by cases w <;> simp [W2.s]
@[simp] theorem number_s (w : W2) : (Str.ofString "number" = w.s) = False := by cases w <;> simp [W2.s]
@[simp] theorem x_s (w : W2) : (Str.ofString "x" = w.s) = False := by cases w <;> simp [W2.s]
@[simp] theorem y_s (w : W2) : (Str.ofString "y" = w.s) = False := by cases w <;> simp [W2.s]
@[simp] theorem read_s (w : W2) : (Str.ofString "read" = w.s) = False := by cases w <;> simp [W2.s]
@[simp] theorem flat_ws (w : W2) (n : Nat) : D.flat n (.str w.s) = true := by cases w <;> exact flat_str _ _
/-- a formula -/
inductive Fm where
  | num (z : Int) | x | y | read (s : Str) (p q : Int) | bin (w : W2) (a b : Fm) | pick (a b c : Fm)
def dF : Fm → D
  | .num z => .tup [.str "number", .int z]
  | .x => .tup [.str "x"]
  | .y => .tup [.str "y"]
  | .read s p q => .tup [.str "read", .str s, .int p, .int q]
  | .bin w a b => .tup [.str w.s, dF a, dF b]
  | .pick a b c => .tup [.str "pick", dF a, dF b, dF c]
def Fm.word : Fm → Str
  | .num _ => "number"
  | .x => "x"
  | .y => "y"
  | .read _ _ _ => "read"
  | .bin w _ _ => w.s
  | .pick _ _ _ => "pick"
def Fm.rest : Fm → List D
  | .num z => [.int z]
  | .x => []
  | .y => []
  | .read s p q => [.str s, .int p, .int q]
  | .bin _ a b => [dF a, dF b]
  | .pick a b c => [dF a, dF b, dF c]
theorem dF_eq (f : Fm) : dF f = .tup (.str f.word :: f.rest) := by cases f <;> rfl
def Fm.kids : Fm → List Fm
  | .bin _ a b => [a, b]
  | .pick a b c => [a, b, c]
  | _ => []
def Fm.ht : Fm → Nat
  | .bin _ a b => max a.ht b.ht + 1
  | .pick a b c => max a.ht (max b.ht c.ht) + 1
  | _ => 1
def reads : Fm → List (Str × Int × Int)
  | .read s p q => [(s, p, q)]
  | .bin _ a b => reads a ++ reads b
  | .pick a b c => reads a ++ (reads b ++ reads c)
  | _ => []
def dRd (r : Str × Int × Int) : D := .tup [.str r.1, .int r.2.1, .int r.2.2]
@[simp] theorem dRds_length (l : List (Str × Int × Int)) : (l.map dRd).length = l.length := by simp
def dRds (l : List (Str × Int × Int)) : List D := l.map dRd
theorem formulas_in_run (f : Fm) {K : KF} {E g} : RunF s_f_formulas_in [.imm (dF f)] K E g = K (.lst (ims (f.kids.map dF))) [none] := by
  rw [s_f_formulas_in, run_def (by rfl) (by decide), s_f_formulas_inB]
  rcases f with z | _ | _ | ⟨s, p, q⟩ | ⟨w, a, b⟩ | ⟨a, b, c⟩
  · simp [dF, o2_in_tup, Fm.kids]
  · simp [dF, o2_in_tup, Fm.kids]
  · simp [dF, o2_in_tup, Fm.kids]
  · simp [dF, o2_in_tup, Fm.kids]
  · cases w <;> simp [dF, o2_in_tup, Fm.kids, W2.s, cutAt]
  · simp [dF, o2_in_tup, Fm.kids, cutAt]
theorem ix0_dF {f : Fm} {k : T → Prop} : op2K fIx (dF f) (.int 0) k = k (.imm (.str f.word)) := by
  rw [dF_eq, o2_ix_tup]; simp
theorem ht_pos (f : Fm) : 0 < f.ht := by cases f <;> simp [Fm.ht]
theorem reads_of_run : ∀ (n : Nat) (f : Fm), f.ht ≤ n → (reads f).length ≤ 1000000 → ∀ {K : KF} {E g}, RunF (s_f_reads_of n) [.imm (dF f)] K E g = K (.lst (ims (dRds (reads f)))) [none]
  | 0, f, h, _, _, _, _ => by have := ht_pos f; omega
  | n + 1, f, h, hs, K, E, g => by
    rw [show s_f_reads_of (n + 1) = sDef 1 3 [] (s_f_reads_ofB (s_f_reads_of n)) from rfl, run_def (by rfl) (by decide), s_f_reads_ofB]
    simp [ix0_dF, formulas_in_run]
    rcases f with z | _ | _ | ⟨s, p, q⟩ | ⟨w, a, b⟩ | ⟨a, b, c⟩
    · simp [Fm.word, Fm.kids, runL_nil, reads, dRds, ifK]
    · simp [Fm.word, Fm.kids, runL_nil, reads, dRds, ifK]
    · simp [Fm.word, Fm.kids, runL_nil, reads, dRds, ifK]
    · simp [Fm.word, Fm.kids, runL_nil, reads, dRds, dF, dRd]
    · simp [Fm.ht] at h
      simp [reads] at hs
      have ha := @reads_of_run n a (by omega) (by omega)
      have hb := @reads_of_run n b (by omega) (by omega)
      have e1 : (reads a).length ≤ 16777216 := by omega
      have e2 : (reads a).length + (reads b).length ≤ 16777216 := by omega
      cases w <;> simp [Fm.word, W2.s, Fm.kids, runL_cons, runL_nil, reads, dRds, ha, hb, e1, e2, ims_append]
    · simp [Fm.ht] at h
      simp [reads] at hs
      have ha := @reads_of_run n a (by omega) (by omega)
      have hb := @reads_of_run n b (by omega) (by omega)
      have hc := @reads_of_run n c (by omega) (by omega)
      have e1 : (reads a).length ≤ 16777216 := by omega
      have e2 : (reads a).length + (reads b).length ≤ 16777216 := by omega
      have e3 : (reads a).length + (reads b).length + (reads c).length ≤ 16777216 := by omega
      simp [Fm.word, Fm.kids, runL_cons, runL_nil, reads, dRds, ha, hb, hc, e1, e2, e3, ims_append]
def W2.app (w : W2) (m a b : Int) : Int := match w with
  | .sum => (a + b) % m
  | .less => (a - b) % m
  | .times => a * b % m
  | .least => if b < a then b else a
  | .most => if b > a then b else a
def worthF (m x y : Int) : Fm → List Int → Int
  | .num z, _ => z % m
  | .x, _ => x % m
  | .y, _ => y % m
  | .read _ _ _, ns => ns.headD 0 % m
  | .bin w a b, ns => w.app m (worthF m x y a (ns.take (reads a).length)) (worthF m x y b (ns.drop (reads a).length))
  | .pick a b c, ns => if worthF m x y a (ns.take (reads a).length) = 0 then worthF m x y c ((ns.drop (reads a).length).drop (reads b).length) else worthF m x y b ((ns.drop (reads a).length).take (reads b).length)
theorem worth_range {m x y : Int} (hm : 0 < m) : ∀ (f : Fm) (ns : List Int), 0 ≤ worthF m x y f ns ∧ worthF m x y f ns < m
  | .num z, _ => ⟨Int.emod_nonneg _ (by omega), Int.emod_lt_of_pos _ hm⟩
  | .x, _ => ⟨Int.emod_nonneg _ (by omega), Int.emod_lt_of_pos _ hm⟩
  | .y, _ => ⟨Int.emod_nonneg _ (by omega), Int.emod_lt_of_pos _ hm⟩
  | .read _ _ _, _ => ⟨Int.emod_nonneg _ (by omega), Int.emod_lt_of_pos _ hm⟩
  | .bin w a b, ns => by
    have h1 := worth_range (x := x) (y := y) hm a (ns.take (reads a).length)
    have h2 := worth_range (x := x) (y := y) hm b (ns.drop (reads a).length)
    simp only [worthF]
    cases w
    · exact ⟨Int.emod_nonneg _ (by omega), Int.emod_lt_of_pos _ hm⟩
    · exact ⟨Int.emod_nonneg _ (by omega), Int.emod_lt_of_pos _ hm⟩
    · exact ⟨Int.emod_nonneg _ (by omega), Int.emod_lt_of_pos _ hm⟩
    · simp only [W2.app]; split <;> omega
    · simp only [W2.app]; split <;> omega
  | .pick a b c, ns => by
    simp only [worthF]
    split
    · exact worth_range hm c _
    · exact worth_range hm b _
theorem deed_run {w : W2} {m a b : Int} (hm : 0 < m) (hm2 : m ≤ 10 ^ 60) (ha : 0 ≤ a ∧ a < m) (hb : 0 ≤ b ∧ b < m) {K : KF} {E g} : RunF s_f_worth_of_deed [.imm (.str w.s), .imm (.int m), .imm (.lst [.int a, .int b])] K E g = K (.imm (.int (w.app m a b))) [none, none, none] := by
  have hmul := Bd.mulOk (i := a) (j := b) (m := 200) (n := 200) (Bd.range (by omega) (by omega)) (Bd.range (by omega) (by omega)) (by decide)
  rw [s_f_worth_of_deed, run_def (by rfl) (by decide), s_f_worth_of_deedB]
  rw [mulLine_eq] at hmul
  cases w <;> simp [W2.s, W2.app, ifK, hm, hmul]
theorem deed3_run {m a b c : Int} {K : KF} {E g} : RunF s_f_worth_of_deed [.imm (.str "pick"), .imm (.int m), .imm (.lst [.int a, .int b, .int c])] K E g = K (.imm (.int (if a = 0 then c else b))) [none, none, none] := by
  rw [s_f_worth_of_deed, run_def (by rfl) (by decide), s_f_worth_of_deedB]
  simp
  by_cases h : a = 0 <;> simp [ifK, h]
/-- a list of numbers, as it is or held as data -/
def IsNs (t : T) (ns : List Int) : Prop := t = .imm (.lst (ns.map D.int)) ∨ t = .lst (ims (ns.map D.int))
theorem worth_run {m x y : Int} (hm : 0 < m) (hm2 : m ≤ 10 ^ 60) : ∀ (n : Nat) (f : Fm) (ns : List Int) (t : T), f.ht ≤ n → f.ht ≤ 13 → (reads f).length ≤ 1000000 → ns.length = (reads f).length → IsNs t ns →
    Sp (s_f_worth n) [.imm (dF f), .imm (.int m), .imm (.int x), .imm (.int y), t] fun r ps => r = .imm (.int (worthF m x y f ns)) ∧ ps = [none, none, none, none, none]
  | 0, f, ns, t, h, _, _, _, _ => by have := ht_pos f; omega
  | n + 1, f, ns, t, h, h13, hs, hl, ht => by
    rw [show s_f_worth (n + 1) = sDef 5 9 [] (s_f_worthB (s_f_worth n)) from rfl, sp_def (by rfl) (by decide), s_f_worthB]
    simp [ix0_dF]
    rcases f with z | _ | _ | ⟨s, p, q⟩ | ⟨w, a, b⟩ | ⟨a, b, c⟩
    · simp [Fm.word, dF, worthF, hm]
    · simp [Fm.word, dF, worthF, hm]
    · simp [Fm.word, dF, worthF, hm]
    · obtain ⟨z, rfl⟩ := List.length_eq_one_iff.mp hl
      rcases ht with rfl | rfl <;> simp [Fm.word, dF, worthF, hm]
    · simp [Fm.ht] at h h13
      simp [reads] at hs hl
      have ra := @reads_of_run 12 a (by omega) (by omega)
      have rb := @reads_of_run 12 b (by omega) (by omega)
      obtain ⟨A, B, rfl, hA⟩ : ∃ A B, ns = A ++ B ∧ A.length = (reads a).length := ⟨ns.take (reads a).length, ns.drop (reads a).length, by simp, by simp; omega⟩
      have hB : B.length = (reads b).length := by simp at hl; omega
      have ia : ∀ {K : KF} {E g}, RunF (s_f_worth n) [.imm (dF a), .imm (.int m), .imm (.int x), .imm (.int y), .lst (ims (A.map D.int))] K E g = K (.imm (.int (worthF m x y a A))) [none, none, none, none, none] := Sp.eqn (worth_run (x := x) (y := y) hm hm2 n a A _ (by omega) (by omega) (by omega) hA (.inr rfl))
      have ib : ∀ {K : KF} {E g}, RunF (s_f_worth n) [.imm (dF b), .imm (.int m), .imm (.int x), .imm (.int y), .lst (ims (B.map D.int))] K E g = K (.imm (.int (worthF m x y b B))) [none, none, none, none, none] := Sp.eqn (worth_run (x := x) (y := y) hm hm2 n b B _ (by omega) (by omega) (by omega) hB (.inr rfl))
      have c1 : cutL (A.map D.int ++ B.map D.int) (some 0) (some (A.length : Int)) = A.map D.int := by
        have := cut_first (A.map D.int) (B.map D.int)
        rwa [List.length_map] at this
      have c2 : cutL (A.map D.int ++ B.map D.int) (some (A.length : Int)) (some ((A.length : Int) + (B.length : Int))) = B.map D.int := by
        have := cut_mid (A.map D.int) (B.map D.int) []
        rwa [List.length_map, List.length_map, List.append_nil] at this
      have wa := worth_range (x := x) (y := y) hm a A
      have wb := worth_range (x := x) (y := y) hm b B
      have dd : ∀ {K : KF} {E g}, RunF s_f_worth_of_deed [.imm (.str w.s), .imm (.int m), .imm (.lst [.int (worthF m x y a A), .int (worthF m x y b B)])] K E g = K (.imm (.int (w.app m (worthF m x y a A) (worthF m x y b B)))) [none, none, none] := deed_run hm hm2 wa wb
      rcases ht with rfl | rfl <;> simp [Fm.word, dF, runL_cons, runL_nil, ra, rb, ia, ib, c1, c2, dd, dRds, worthF, cutAt, ← hA, ← hB]
    · simp [Fm.ht] at h h13
      simp [reads] at hs hl
      have ra := @reads_of_run 12 a (by omega) (by omega)
      have rb := @reads_of_run 12 b (by omega) (by omega)
      have rc := @reads_of_run 12 c (by omega) (by omega)
      obtain ⟨A, B, C, rfl, hA, hB⟩ : ∃ A B C, ns = A ++ (B ++ C) ∧ A.length = (reads a).length ∧ B.length = (reads b).length := ⟨ns.take (reads a).length, (ns.drop (reads a).length).take (reads b).length, (ns.drop (reads a).length).drop (reads b).length, by rw [List.take_append_drop, List.take_append_drop], by simp; omega, by simp; omega⟩
      have hC : C.length = (reads c).length := by simp at hl; omega
      have ia : ∀ {K : KF} {E g}, RunF (s_f_worth n) [.imm (dF a), .imm (.int m), .imm (.int x), .imm (.int y), .lst (ims (A.map D.int))] K E g = K (.imm (.int (worthF m x y a A))) [none, none, none, none, none] := Sp.eqn (worth_run (x := x) (y := y) hm hm2 n a A _ (by omega) (by omega) (by omega) hA (.inr rfl))
      have ib : ∀ {K : KF} {E g}, RunF (s_f_worth n) [.imm (dF b), .imm (.int m), .imm (.int x), .imm (.int y), .lst (ims (B.map D.int))] K E g = K (.imm (.int (worthF m x y b B))) [none, none, none, none, none] := Sp.eqn (worth_run (x := x) (y := y) hm hm2 n b B _ (by omega) (by omega) (by omega) hB (.inr rfl))
      have ic : ∀ {K : KF} {E g}, RunF (s_f_worth n) [.imm (dF c), .imm (.int m), .imm (.int x), .imm (.int y), .lst (ims (C.map D.int))] K E g = K (.imm (.int (worthF m x y c C))) [none, none, none, none, none] := Sp.eqn (worth_run (x := x) (y := y) hm hm2 n c C _ (by omega) (by omega) (by omega) hC (.inr rfl))
      have c1 : cutL (A.map D.int ++ (B.map D.int ++ C.map D.int)) (some 0) (some (A.length : Int)) = A.map D.int := by
        have := cut_first (A.map D.int) (B.map D.int ++ C.map D.int)
        rwa [List.length_map] at this
      have c2 : cutL (A.map D.int ++ (B.map D.int ++ C.map D.int)) (some (A.length : Int)) (some ((A.length : Int) + (B.length : Int))) = B.map D.int := by
        have := cut_mid (A.map D.int) (B.map D.int) (C.map D.int)
        rwa [List.length_map, List.length_map] at this
      have c3 : cutL (A.map D.int ++ (B.map D.int ++ C.map D.int)) (some ((A.length : Int) + (B.length : Int))) (some ((A.length : Int) + (B.length : Int) + (C.length : Int))) = C.map D.int := by
        have := cut_mid (A.map D.int ++ B.map D.int) (C.map D.int) []
        simpa using this
      rcases ht with rfl | rfl <;> simp [Fm.word, dF, runL_cons, runL_nil, ra, rb, rc, ia, ib, ic, c1, c2, c3, deed3_run, dRds, worthF, cutAt, ← hA, ← hB, ← hC]
end G
set_option Elab.async false
set_option linter.all false
set_option maxRecDepth 100000
set_option maxHeartbeats 4000000
namespace G
open PySem PySem.Builtin.Int
def mkS (l : List Nat) : Str := ⟨l.toArray⟩
theorem mkS_app (a b : List Nat) : mkS a ++ mkS b = mkS (a ++ b) := by
  show Str.append _ _ = _
  simp [Str.append, mkS]
theorem mkS_len (a : List Nat) : (mkS a).length = a.length := by simp [Str.length, mkS]
theorem mkS_inj {a b : List Nat} (h : mkS a = mkS b) : a = b := by
  injection h with h
  exact Array.mk.inj h
theorem foldl_app (a : Array Nat) : ∀ (n : Nat) (acc : Array Nat), ((List.replicate n a).foldl (· ++ ·) acc).toList = acc.toList ++ (List.replicate n a.toList).flatten
  | 0, acc => by simp
  | n + 1, acc => by
    rw [List.replicate_succ, List.foldl_cons, foldl_app a n, List.replicate_succ, List.flatten_cons]
    simp
theorem mul_one (c : Nat) (k : Int) (h : 1 ≤ k) : Txt.mul (mkS [c]) k = mkS (List.replicate k.toNat c) := by
  unfold Txt.mul
  rw [if_neg (by omega)]
  by_cases e : k = 1
  · subst e; simp [mkS]
  · have hn : ¬ ((k == 1 || (mkS [c]).length == 0) = true) := by simp [e, mkS_len]
    rw [if_neg hn]
    unfold mkS
    congr 1
    apply Array.toList_inj.mp
    rw [foldl_app]
    simp
theorem join_chs (l : List Nat) : Txt.join (Str.ofString "") (l.map fun c => mkS [c]) = mkS l := by
  show PySem.Builtin.Str.glued (Str.ofString "") _ = _
  rw [StrLaws.glued_eq_join]
  have e : Str.ofString "" = mkS [] := by decide +kernel
  rw [e]
  induction l with
  | nil => rfl
  | cons c r ih =>
    cases r with
    | nil => rfl
    | cons d r =>
      show mkS [c] ++ mkS [] ++ PySem.Str.join (mkS []) ((d :: r).map fun c => mkS [c]) = _
      rw [ih, mkS_app, mkS_app]
      rfl
theorem letters : (Str.ofString "abcdefghijklmnopqrstuvwxyz").cps.toList = (List.range 26).map (97 + ·) := by decide +kernel
theorem ix_letters {i : Int} {k : T → Prop} (h : 0 ≤ i) (h' : i < 26) : op2K fIx (.str (Str.ofString "abcdefghijklmnopqrstuvwxyz")) (.int i) k = k (.imm (.str (mkS [97 + i.toNat]))) := by
  have hl : (Str.ofString "abcdefghijklmnopqrstuvwxyz").length ≤ line := by
    unfold Str.length
    rw [← Array.length_toList, letters]; simp
  unfold op2K
  simp only [fIx, if_pos hl, letters]
  have : atI ((List.range 26).map (97 + ·)) i = some (97 + i.toNat) := by
    unfold atI
    rw [if_pos h]
    have : i.toNat < 26 := by omega
    simp [this]
  rw [this]
  simp [mkS]
theorem rng_range (n : Nat) : rng 0 1 n = (List.range n).map fun (k : Nat) => D.int k := by
  have h : ∀ (n j : Nat), rng (j : Int) 1 n = (List.range' j n).map fun (k : Nat) => D.int k := by
    intro n
    induction n with
    | zero => intro j; rfl
    | succ n ih =>
      intro j
      rw [show rng (j : Int) 1 (n + 1) = .int j :: rng ((j : Int) + 1) 1 n from rfl, List.range'_succ, List.map_cons]
      congr 1
      exact_mod_cast ih (j + 1)
  rw [List.range_eq_range']
  exact h n 0
theorem cut_take {α : Type} (l : List α) (i : Int) (h : 0 ≤ i) : cutL l none (some i) = l.take i.toNat := by
  have e : cutAt l.length l.length (some i) = min i.toNat l.length := by
    simp only [cutAt]
    rw [if_neg (by omega)]
  have e0 : cutAt l.length 0 none = 0 := rfl
  unfold cutL
  rw [e, e0, List.drop_zero, Nat.sub_zero]
  rw [List.take_eq_take_iff]
  omega
theorem cut_drop {α : Type} (l : List α) (i : Int) (h : 0 ≤ i) : cutL l (some i) none = l.drop i.toNat := by
  have e : cutAt l.length 0 (some i) = min i.toNat l.length := by
    simp only [cutAt]
    rw [if_neg (by omega)]
  have e0 : cutAt l.length l.length none = l.length := rfl
  unfold cutL
  rw [e, e0]
  by_cases q : i.toNat ≤ l.length
  · rw [Nat.min_eq_left q, List.take_of_length_le (by simp)]
  · rw [Nat.min_eq_right (by omega), List.drop_of_length_le (by omega : l.length ≤ i.toNat)]
    simp
theorem o2_add_str {x y : Str} {k : T → Prop} : op2K fAdd (.str x) (.str y) k = (x.length + y.length ≤ line ∧ k (.imm (.str (x ++ y)))) := ex_ite
theorem o2_mul_str {x : Str} {i : Int} {k : T → Prop} : op2K fMul (.str x) (.int i) k = ((i < 1000000 ∧ -1000000 < i ∧ x.length ≤ 10000 ∧ x.length * i.toNat ≤ line) ∧ k (.imm (.str (Txt.mul x i)))) := ex_ite
theorem allS_map : ∀ l : List Str, allS (l.map D.str) = some l
  | [] => rfl
  | x :: r => by
    show (allS (r.map D.str)).map (x :: ·) = _
    rw [allS_map r]; rfl
theorem op_join {a : Str} {l : List Str} {k : T → Prop} : opSK fJoin a (.lst (l.map D.str)) k = ((l.map (·.length)).sum + l.length * a.length ≤ line ∧ k (.imm (.str (Txt.join a l)))) := by
  unfold opSK fJoin
  simp only [allS_map]
  exact ex_ite
theorem op_join1 {l : List Nat} {k : T → Prop} (h : l.length ≤ 1000) : opSK fJoin (Str.ofString "") (.lst (l.map fun c => D.str (mkS [c]))) k = k (.imm (.str (mkS l))) := by
  have e : (l.map fun c => D.str (mkS [c])) = (l.map fun c => mkS [c]).map D.str := by simp
  rw [e, op_join, join_chs]
  have hs : ((l.map fun c => mkS [c]).map (·.length)).sum = l.length := by
    induction l with
    | nil => rfl
    | cons c r ih =>
      have := ih (by simp at h; omega) (by simp)
      simp only [List.map_cons, List.sum_cons, this, mkS_len, List.length_cons, List.length_nil]
      omega
  have hz : (Str.ofString "").length = 0 := by decide +kernel
  rw [hs, hz]
  simp
  omega
def Nms (nm : Nat → List Nat) (n : Nat) : Prop := (∀ k < n, 1 ≤ (nm k).length ∧ (nm k).length ≤ 12 ∧ ∀ c ∈ nm k, 97 ≤ c ∧ c ≤ 122) ∧ ∀ i j, i < j → j < n → nm i ≠ nm j
def dNs (nm : Nat → List Nat) (n : Nat) : List D := (List.range n).map fun k => D.str (mkS (nm k))
theorem names_run {d : Int} (hd : Bd 2000000 d) (n : Nat) (hn : n ≤ 12) : Sp s_l_names [.imm (.int d), .imm (.int n)] fun t ps => ps = [none, none] ∧ ∃ nm, Nms nm n ∧ t = .lst (ims (dNs nm n)) := by
  rw [s_l_names, sp_def (by rfl) (by decide), s_l_namesB]
  simp
  have h1 := Bd.mulOk hd hd (by decide)
  have h2 := bits_le (((hd.mul hd).add hd).add (j := 1) (n := 1) (Bd.lit (by decide +kernel)))
  rw [mulLine_eq] at h1
  refine ⟨h1, by omega, ?_⟩
  generalize (d * d + d + 1) * 982451653 = m
  have hlong : 0 ≤ m % 12 ∧ m % 12 < 12 := by omega
  obtain ⟨l, hl, hl0, hl1⟩ : ∃ l : Nat, (1 + m % 12) = (l : Int) ∧ 1 ≤ l ∧ l ≤ 12 := ⟨(1 + m % 12).toNat, by omega, by omega, by omega⟩
  rw [hl]
  have hat0 := Int.emod_nonneg (m / 12) (b := (l : Int)) (by omega)
  have hat1 := Int.emod_lt_of_pos (m / 12) (b := (l : Int)) (by omega)
  obtain ⟨at', hat, hat2⟩ : ∃ a : Nat, m / 12 % (l : Int) = (a : Int) ∧ a < l := ⟨(m / 12 % (l : Int)).toNat, by omega, by omega⟩
  rw [hat]
  refine ⟨by omega, ⟨by omega, by omega⟩, ?_⟩
  rw [Int.toNat_natCast, rng_range]
  refine RunLC.mapM (fun k : Nat => D.int k) (fun k : Nat => T.imm (.str (mkS [97 + ((m / ((k : Int) + 5) + k * k) % 26).toNat]))) (fun k hk => ?_) (by simp; omega) ?_
  · have hk := List.mem_range.mp hk
    have b1 : bits ((k : Int) + 5) < 9000 := by
      have := bits_le (Bd.range (m := 60) (i := (k : Int) + 5) (by omega) (by omega))
      omega
    have b2 : bits (k : Int) + bits (k : Int) < 134000000 := by
      have := bits_le (Bd.range (m := 60) (i := (k : Int)) (by omega) (by omega))
      omega
    have b3 : 0 < (k : Int) + 5 := by omega
    simp [b1, b2, b3]
    rw [ix_letters (by omega) (by omega)]
    simp [wipe]
  · have hB : T.toDs ((List.range l).map fun k : Nat => T.imm (.str (mkS [97 + ((m / ((k : Int) + 5) + k * k) % 26).toNat]))) = ((List.range l).map fun k : Nat => 97 + ((m / ((k : Int) + 5) + k * k) % 26).toNat).map fun c => D.str (mkS [c]) := by
      simp [toDs_map]
    simp only [hB]
    have hb1 : ((List.range l).map fun k : Nat => 97 + ((m / ((k : Int) + 5) + k * k) % 26).toNat).length = l := by simp
    have hb2 : ∀ c ∈ ((List.range l).map fun k : Nat => 97 + ((m / ((k : Int) + 5) + k * k) % 26).toNat), 97 ≤ c ∧ c ≤ 122 := by
      intro c hc
      obtain ⟨k, _, rfl⟩ := List.mem_map.mp hc
      omega
    generalize ((List.range l).map fun k : Nat => 97 + ((m / ((k : Int) + 5) + k * k) % 26).toNat) = bs at hb1 hb2 ⊢
    obtain ⟨st, hst, hst2⟩ : ∃ st : Int, atI [D.int 1, .int 3, .int 5, .int 7, .int 9, .int 11] (m / 144 % 6) = some (.int st) ∧ (st = 1 ∨ st = 3 ∨ st = 5 ∨ st = 7 ∨ st = 9 ∨ st = 11) := by
      have e : m / 144 % 6 = 0 ∨ m / 144 % 6 = 1 ∨ m / 144 % 6 = 2 ∨ m / 144 % 6 = 3 ∨ m / 144 % 6 = 4 ∨ m / 144 % 6 = 5 := by omega
      rcases e with e | e | e | e | e | e <;> rw [e] <;> simp
    obtain ⟨c0, r0, rfl⟩ : ∃ c r, bs = c :: r := by
      cases bs with
      | nil => simp at hb1; omega
      | cons c r => exact ⟨c, r, rfl⟩
    have c1 : cutL (D.str (mkS [c0]) :: r0.map fun c => D.str (mkS [c])) none (some (at' : Int)) = ((c0 :: r0).take at').map fun c => D.str (mkS [c]) := by
      rw [cut_take _ _ (by omega), List.map_take]; simp
    have c2 : cutL (D.str (mkS [c0]) :: r0.map fun c => D.str (mkS [c])) (some ((at' : Int) + 1)) none = ((c0 :: r0).drop (at' + 1)).map fun c => D.str (mkS [c]) := by
      rw [cut_drop _ _ (by omega), List.map_drop]
      have : ((at' : Int) + 1).toNat = at' + 1 := by omega
      rw [this]; simp
    have l1 : ((c0 :: r0).take at').length = at' := by rw [List.length_take]; omega
    have l2 : ((c0 :: r0).drop (at' + 1)).length = l - (at' + 1) := by rw [List.length_drop]; omega
    have m1 : ∀ c ∈ (c0 :: r0).take at', 97 ≤ c ∧ c ≤ 122 := fun c h => hb2 c (List.mem_of_mem_take h)
    have m2 : ∀ c ∈ (c0 :: r0).drop (at' + 1), 97 ≤ c ∧ c ≤ 122 := fun c h => hb2 c (List.mem_of_mem_drop h)
    have m0 := hb2 c0 (by simp)
    generalize (c0 :: r0).take at' = pre at c1 l1 m1
    generalize (c0 :: r0).drop (at' + 1) = post at c2 l2 m2
    obtain ⟨nm, hnm⟩ : ∃ nm : Nat → List Nat, nm = fun (k : Nat) => if m / 900 % 3 = 1 then List.replicate (((k : Int) + m / 7) % 12 + 1).toNat c0 else pre ++ ([97 + ((m / 864 + k * st) % 26).toNat] ++ post) := ⟨_, rfl⟩
    have good : Nms nm n := by
      refine ⟨fun k hk => ?_, fun i j hij hj => ?_⟩
      · rw [hnm]
        dsimp only
        split
        · refine ⟨by rw [List.length_replicate]; omega, by rw [List.length_replicate]; omega, fun c hc => ?_⟩
          rw [List.eq_of_mem_replicate hc]; exact m0
        · refine ⟨by simp; omega, by simp; omega, fun c hc => ?_⟩
          rcases List.mem_append.mp hc with h | h
          · exact m1 c h
          · rcases List.mem_append.mp h with h | h
            · simp at h; omega
            · exact m2 c h
      · rw [hnm]
        dsimp only
        split
        · intro e
          have := congrArg List.length e
          rw [List.length_replicate, List.length_replicate] at this
          omega
        · intro e
          have e := List.append_cancel_left e
          simp at e
          rcases hst2 with h | h | h | h | h | h <;> subst h <;> omega
    simp [hst]
    refine ⟨by omega, RunL.rng0 (fun j s => ∃ a7 a10 : Option T, s = [some (T.imm (D.int d)), some (T.imm (D.int n)), some (T.imm (D.str (Str.ofString "abcdefghijklmnopqrstuvwxyz"))), some (T.imm (D.int m)), some (T.imm (D.int l)), some (T.imm (D.int at')), some (T.imm (D.lst (D.str (mkS [c0]) :: List.map (fun c => D.str (mkS [c])) r0))), a7, some (T.imm (D.int st)), some (T.lst (ims (dNs nm j))), a10]) ?_ ?_ ⟨_, _, rfl⟩⟩
    · rintro j s hj ⟨a7, a10, rfl⟩
      have b1 : bits (j : Int) + bits st < 134000000 := by
        have := bits_le (Bd.range (m := 60) (i := (j : Int)) (by omega) (by omega))
        have := bits_le (Bd.range (m := 60) (i := st) (by omega) (by omega))
        omega
      simp [b1]
      rw [ix_letters (by omega) (by omega)]
      have step : ∀ z, z = nm j → dNs nm j ++ [D.str (mkS z)] = dNs nm (j + 1) := fun z hz => by
        rw [hz, dNs, dNs, List.range_succ, List.map_append]; rfl
      simp
      refine ⟨fun q => ?_, fun q => ?_⟩
      · rw [o2_mul_str, mkS_len, mul_one _ _ (by omega)]
        have e := step (List.replicate (((j : Int) + m / 7) % 12 + 1).toNat c0) (by rw [hnm]; exact (if_pos q).symm)
        refine ⟨⟨by omega, by omega, by simp, by simp; omega⟩, by simp [dNs]; omega, ?_⟩
        rw [← e, ims_append]; rfl
      · rw [c1, op_join1 (by omega)]
        simp
        rw [o2_add_str, mkS_app, mkS_len, mkS_len]
        refine ⟨by simp; omega, ?_⟩
        simp
        rw [c2, op_join1 (by omega)]
        simp
        rw [o2_add_str, mkS_app, mkS_len, mkS_len]
        have e := step (pre ++ ([97 + ((m / 864 + (j : Int) * st) % 26).toNat] ++ post)) (by rw [hnm]; exact (if_neg q).symm)
        refine ⟨by simp; omega, by simp [dNs]; omega, ?_⟩
        rw [← e, ims_append]; simp
    · rintro s ⟨a7, a10, rfl⟩
      simp
      exact ⟨nm, good, rfl⟩
end G
set_option Elab.async false
set_option linter.all false
set_option maxRecDepth 100000
set_option maxHeartbeats 4000000
namespace G
open PySem PySem.Builtin.Int
/-! Formulas as they are drawn. -/
def Fm.size : Fm → Nat
  | .bin _ a b => a.size + b.size + 1
  | .pick a b c => a.size + b.size + c.size + 1
  | _ => 1
/-- its names are of nm's n -/
def Fm.of (nm : Nat → List Nat) (n : Nat) : Fm → Prop
  | .read s _ _ => ∃ k < n, s = mkS (nm k)
  | .bin _ a b => a.of nm n ∧ b.of nm n
  | .pick a b c => a.of nm n ∧ b.of nm n ∧ c.of nm n
  | .num z => 0 ≤ z ∧ z ≤ 10 ^ 60
  | _ => True
theorem number_run {d : Int} (hd : Bd 2000000 d) : Sp s_l_number [.imm (.int d)] fun t ps => ps = [none] ∧ ∃ v, (0 ≤ v ∧ v ≤ 10 ^ 60) ∧ t = .imm (.int v) := by
  rw [s_l_number, sp_def (by rfl) (by decide), s_l_numberB]
  simp
  have h1 := Bd.mulOk hd hd (by decide)
  have h2 := bits_le (((hd.mul hd).add hd).add (j := 1) (n := 1) (Bd.lit (by decide +kernel)))
  rw [mulLine_eq] at h1
  refine ⟨fun _ => by omega, fun _ => ⟨fun _ => by omega, fun _ => ⟨h1, by omega, ?_⟩⟩⟩
  have hq : 0 ≤ (d * d + d + 1) * 982451653 % 1000000000000000009 ∧ (d * d + d + 1) * 982451653 % 1000000000000000009 < 1000000000000000009 := by omega
  generalize (d * d + d + 1) * 982451653 % 1000000000000000009 = q at hq ⊢
  have bq : Bd 60 q := Bd.range (by omega) (by omega)
  have b1 := Bd.mulOk bq bq (by decide)
  have b2 := Bd.mulOk (bq.mul bq) bq (by decide)
  have b3 := bits_le ((bq.mul bq).mul bq)
  rw [mulLine_eq] at b1 b2
  exact ⟨b1, b2, by omega, by omega, by omega⟩
theorem name_at {nm : Nat → List Nat} {n : Nat} {i : Int} (h : -(n : Int) ≤ i) (h' : i < n) : ∃ k < n, atI (dNs nm n) i = some (.str (mkS (nm k))) := by
  unfold dNs atI
  by_cases q : 0 ≤ i
  · rw [if_pos q]
    have : i.toNat < n := by omega
    exact ⟨i.toNat, this, by simp [this]⟩
  · rw [if_neg q, if_pos (by simp; omega)]
    have : (i + n).toNat < n := by omega
    exact ⟨(i + n).toNat, this, by simp [this]⟩
theorem leaf_run {nm : Nat → List Nat} {n : Nat} (hn : 1 ≤ n) (hn2 : n ≤ 1000) {L : List Int} {r : Nat} (hr : r ≤ 51) (hL : Rich r L) {z : Int} (h0 : 0 ≤ z) (h1 : z < 1000003) :
    Sp s_l_leaf [.imm (.lst (dNs nm n)), .imm (.int z), .lst (ims (L.map D.int))] fun t ps => ∃ f M, f.of nm n ∧ f.ht = 1 ∧ f.size = 1 ∧ Rich r M ∧ t = .imm (dF f) ∧ ps = [none, none, some (.lst (ims (M.map D.int)))] := by
  rw [s_l_leaf, sp_def (by rfl) (by decide), s_l_leafB]
  simp
  have hlen : ((dNs nm n).length : Int) = n := by simp [dNs]
  have num : ∀ (K : KF) (E : EF) g, (∀ v, (0 ≤ v ∧ v ≤ 10 ^ 60) → K (.imm (.int v)) [none]) → RunF s_l_number [.imm (.int (z / 8))] K E g := fun K E g h => (number_run (Bd.range (by omega) (by omega))).k fun t ps ⟨e, v, hv, e2⟩ => by rw [e, e2]; exact h v hv
  refine ifK.mk (fun e0 => ifK.mk (fun e1 => ifK.mk (fun e2 => ?loop) fun _ => ?num) fun _ => ?num2) fun e0 => ?rest
  case num =>
    simp [e0]
    refine num _ _ _ fun v hv => ?_
    simp
    exact ⟨.num v, hv, rfl, rfl, L, hL, rfl, rfl⟩
  case num2 =>
    simp [e0]
    refine num _ _ _ fun v hv => ?_
    simp
    exact ⟨.num v, hv, rfl, rfl, L, hL, rfl, rfl⟩
  case loop =>
    refine RunL.rng0 (fun j s => ∃ (v : Int) (M : List Int) (a5 a6 : Option T), s = [some (.imm (.lst (dNs nm n))), some (.imm (.int z)), some (.lst (ims (M.map D.int))), some (.imm (.int (z % 8))), some (.imm (.int v)), a5, a6] ∧ 0 ≤ v ∧ Bd (30 * j + 1) v ∧ Rich (61 - j) M) ?_ ?_ ⟨0, L, _, _, rfl, by omega, Bd.lit (by decide), ⟨by omega, hL.2⟩⟩
    · rintro j s hj ⟨v, M, a5, a6, rfl, v0, vb, hM⟩
      have b1 := Bd.mulOk vb (j := 1000003) (n := 20) (Bd.lit (by decide +kernel)) (by omega)
      rw [mulLine_eq] at b1
      simp at b1
      simp [b1]
      refine popR (n := 60 - j) (by rw [show 60 - j + 1 = 61 - j by omega]; exact hM) fun M' y _ hM' y0 y1 => ?_
      simp
      refine ⟨_, _, ⟨rfl, rfl⟩, by omega, ?_, hM'⟩
      exact ((vb.mul (j := 1000003) (n := 20) (Bd.lit (by decide +kernel))).add (j := y) (n := 20) (Bd.range (by omega) (by omega))).mono (by omega)
    · rintro s ⟨v, M, a5, a6, rfl, v0, vb, hM⟩
      simp
      exact ⟨.num (v % 10 ^ 60), ⟨by omega, by omega⟩, rfl, rfl, M, ⟨by have := hM.1; omega, hM.2⟩, rfl, rfl⟩
  case rest =>
    simp [e0]
    refine ifK.mk (fun e1 => ?_) fun e1 => ⟨by simp [dNs]; omega, ?_⟩
    · have e : z % 8 - 1 = 0 ∨ z % 8 - 1 = 1 := by omega
      rcases e with e | e <;> rw [e] <;> simp
      · exact ⟨.x, trivial, rfl, rfl, L, hL, rfl, rfl⟩
      · exact ⟨.y, trivial, rfl, rfl, L, hL, rfl, rfl⟩
    · rw [hlen]
      have q0 := Int.emod_nonneg (z / 8) (b := (n : Int)) (by omega)
      have q1 := Int.emod_lt_of_pos (z / 8) (b := (n : Int)) (by omega)
      obtain ⟨k, hk, ek⟩ := name_at (nm := nm) (n := n) (i := -1 - z / 8 % (n : Int)) (by omega) (by omega)
      rw [ek]
      simp
      refine ifK.mk (fun e2 => ⟨by split <;> omega, ?_⟩) fun e2 => ?_
      · have hm : 0 < (if (n : Int) < 2 then (n : Int) else 2) ∧ (if (n : Int) < 2 then (n : Int) else 2) ≤ n := by split <;> omega
        generalize (if (n : Int) < 2 then (n : Int) else 2) = w at hm ⊢
        have q0 := Int.emod_nonneg (z / 8) (b := w) (by omega)
        have q1 := Int.emod_lt_of_pos (z / 8) (b := w) (by omega)
        obtain ⟨k, hk, ek⟩ := name_at (nm := nm) (n := n) (i := -1 - z / 8 % w) (by omega) (by omega)
        rw [ek]
        simp
        exact ⟨.read (mkS (nm k)) _ _, ⟨k, hk, rfl⟩, rfl, rfl, L, hL, rfl, rfl⟩
      · exact ⟨.read (mkS (nm k)) _ _, ⟨k, hk, rfl⟩, rfl, rfl, L, hL, rfl, rfl⟩
def nodes : Nat → Nat
  | 0 => 1
  | k + 1 => 3 * nodes k + 1
theorem formula_run {nm : Nat → List Nat} {n : Nat} (hn : 1 ≤ n) (hn2 : n ≤ 1000) : ∀ (k w : Nat) (_ : k < w) {L : List Int} {r : Nat} (_ : r + nodes k ≤ 51) (_ : Rich (r + nodes k) L),
    Sp (s_l_formula w) [.imm (.lst (dNs nm n)), .lst (ims (L.map D.int)), .imm (.int k)] fun t ps => ∃ f M, f.of nm n ∧ f.ht ≤ k + 1 ∧ f.size ≤ nodes k ∧ Rich r M ∧ t = .imm (dF f) ∧ ps = [none, some (.lst (ims (M.map D.int))), none]
  | k, w + 1, hk, L, r, hr, hL => by
    rw [show s_l_formula (w + 1) = sDef 3 7 [1] (s_l_formulaB (s_l_formula w)) from rfl, sp_def (by rfl) (by decide), s_l_formulaB]
    simp
    have hp : ∃ q, nodes k = q + 1 ∧ 1 ≤ nodes k := by cases k <;> exact ⟨_, rfl, by simp [nodes]⟩
    obtain ⟨q, hq, _⟩ := hp
    refine popR (n := r + q) (by rw [Nat.add_assoc, ← hq]; exact hL) fun M z _ hM z0 z1 => ?_
    simp
    have mono : ∀ {a b : Nat} {M : List Int}, a ≤ b → Rich b M → Rich a M := fun h q => ⟨Nat.le_trans h q.1, q.2⟩
    have leaf := leaf_run (nm := nm) hn hn2 (r := r + q) (by omega) hM (z := z / 5) (by omega) (by omega)
    refine ifK.mk (fun e => ?_) fun e => ifK.mk (fun e1 => ?_) fun e1 => ?_
    · refine leaf.k ?_
      rintro _ _ ⟨f, M', hf, h1, h2, hM', rfl, rfl⟩
      simp
      exact ⟨f, hf, by omega, by omega, M', mono (by omega) hM', rfl, rfl⟩
    · refine leaf.k ?_
      rintro _ _ ⟨f, M', hf, h1, h2, hM', rfl, rfl⟩
      simp
      exact ⟨f, hf, by omega, by omega, M', mono (by omega) hM', rfl, rfl⟩
    · obtain ⟨k', rfl⟩ : ∃ k', k = k' + 1 := ⟨k - 1, by omega⟩
      have hq' : q = 3 * nodes k' := by simp [nodes] at hq; omega
      subst hq'
      have hw : (∃ w2 : W2, atI [D.str (Str.ofString "sum"), .str (Str.ofString "less"), .str (Str.ofString "times"), .str (Str.ofString "least"), .str (Str.ofString "most"), .str (Str.ofString "pick")] (z / 5 % 6) = some (.str w2.s)) ∨ atI [D.str (Str.ofString "sum"), .str (Str.ofString "less"), .str (Str.ofString "times"), .str (Str.ofString "least"), .str (Str.ofString "most"), .str (Str.ofString "pick")] (z / 5 % 6) = some (.str (Str.ofString "pick")) := by
        have e : z / 5 % 6 = 0 ∨ z / 5 % 6 = 1 ∨ z / 5 % 6 = 2 ∨ z / 5 % 6 = 3 ∨ z / 5 % 6 = 4 ∨ z / 5 % 6 = 5 := by omega
        rcases e with e | e | e | e | e | e <;> rw [e]
        · exact .inl ⟨.sum, rfl⟩
        · exact .inl ⟨.less, rfl⟩
        · exact .inl ⟨.times, rfl⟩
        · exact .inl ⟨.least, rfl⟩
        · exact .inl ⟨.most, rfl⟩
        · exact .inr rfl
      rcases hw with ⟨w2, hw⟩ | hw
      · rw [hw]
        simp [rng, runL_cons, runL_nil]
        refine (formula_run hn hn2 k' w (by omega) (r := r + 1 * nodes k') (by omega) (mono (by omega) hM)).k ?_
        rintro _ _ ⟨f1, M1, o1, t1, s1, hM1, rfl, rfl⟩
        simp [rng, runL_cons, runL_nil]
        refine (formula_run hn hn2 k' w (by omega) (r := r + 0 * nodes k') (by omega) (mono (by omega) hM1)).k ?_
        rintro _ _ ⟨f2, M2, o2, t2, s2, hM2, rfl, rfl⟩
        simp [rng, runL_cons, runL_nil]
        refine ⟨.bin w2 f1 f2, ⟨o1, o2⟩, by simp [Fm.ht]; omega, by simp [Fm.size]; omega, M2, mono (by omega) hM2, rfl, rfl⟩
      · rw [hw]
        simp [rng, runL_cons, runL_nil]
        refine (formula_run hn hn2 k' w (by omega) (r := r + 2 * nodes k') (by omega) (mono (by omega) hM)).k ?_
        rintro _ _ ⟨f1, M1, o1, t1, s1, hM1, rfl, rfl⟩
        simp [rng, runL_cons, runL_nil]
        refine (formula_run hn hn2 k' w (by omega) (r := r + 1 * nodes k') (by omega) (mono (by omega) hM1)).k ?_
        rintro _ _ ⟨f2, M2, o2, t2, s2, hM2, rfl, rfl⟩
        simp [rng, runL_cons, runL_nil]
        refine (formula_run hn hn2 k' w (by omega) (r := r + 0 * nodes k') (by omega) (mono (by omega) hM2)).k ?_
        rintro _ _ ⟨f3, M3, o3, t3, s3, hM3, rfl, rfl⟩
        simp [rng, runL_cons, runL_nil]
        refine ⟨.pick f1 f2 f3, ⟨o1, o2, o3⟩, by simp [Fm.ht]; omega, by simp [Fm.size]; omega, M3, mono (by omega) hM3, rfl, rfl⟩
theorem grown_run {nm : Nat → List Nat} {n : Nat} (hn : 1 ≤ n) (hn2 : n ≤ 1000) {L : List Int} (hL : Rich 51 L) :
    Sp s_l_grown [.imm (.lst (dNs nm n)), .lst (ims (L.map D.int))] fun t ps => (∃ o, ps = [none, o]) ∧ ∃ f, f.of nm n ∧ f.ht ≤ 8 ∧ f.size ≤ 60 ∧ t = .imm (dF f) := by
  rw [s_l_grown, sp_def (by rfl) (by decide), s_l_grownB]
  have mono : ∀ {a b : Nat} {M : List Int}, a ≤ b → Rich b M → Rich a M := fun h q => ⟨Nat.le_trans h q.1, q.2⟩
  simp
  refine (formula_run hn hn2 3 12 (by omega) (r := 11) (by simp [nodes]) (by simpa [nodes] using hL)).k ?_
  rintro _ _ ⟨f0, M0, o0, t0, s0, hM0, rfl, rfl⟩
  simp
  refine popR (n := 10) hM0 fun M1 z1 _ hM1 z10 z11 => ?_
  simp
  refine ⟨by omega, ?_⟩
  obtain ⟨tn, htn, htn2⟩ : ∃ tn : Nat, (z1 % 5).toNat = tn ∧ tn ≤ 4 := ⟨_, rfl, by omega⟩
  rw [htn]
  refine RunL.rng0 (fun j s => ∃ (f : Fm) (M : List Int) (a3 a4 a5 a6 : Option T), s = [some (.imm (.lst (dNs nm n))), some (.lst (ims (M.map D.int))), some (.imm (dF f)), a3, a4, a5, a6] ∧ f.of nm n ∧ f.ht ≤ 4 + j ∧ f.size ≤ 40 + 2 * j ∧ Rich (10 - j) M) ?_ ?_ ⟨f0, M1, _, _, _, _, rfl, o0, by omega, by simp [nodes] at s0; omega, hM1⟩
  · rintro j s hj ⟨f, M, a3, a4, a5, a6, rfl, of1, ht, hs, hM⟩
    simp
    refine popR (n := 9 - j) (by rw [show 9 - j + 1 = 10 - j by omega]; exact hM) fun M2 z _ hM2 z0 z1 => ?_
    simp
    refine (leaf_run (nm := nm) hn hn2 (r := 9 - j) (by omega) hM2 (z := z / 10) (by omega) (by omega)).k ?_
    rintro _ _ ⟨g, M3, og, hg1, hg2, hM3, rfl, rfl⟩
    simp
    have hw : ∃ w2 : W2, atI [D.str (Str.ofString "sum"), .str (Str.ofString "less"), .str (Str.ofString "times"), .str (Str.ofString "least"), .str (Str.ofString "most")] (z % 5) = some (.str w2.s) := by
      have e : z % 5 = 0 ∨ z % 5 = 1 ∨ z % 5 = 2 ∨ z % 5 = 3 ∨ z % 5 = 4 := by omega
      rcases e with e | e | e | e | e <;> rw [e]
      · exact ⟨.sum, rfl⟩
      · exact ⟨.less, rfl⟩
      · exact ⟨.times, rfl⟩
      · exact ⟨.least, rfl⟩
      · exact ⟨.most, rfl⟩
    obtain ⟨w2, hw⟩ := hw
    rw [hw]
    simp
    have e : z / 5 % 2 = 0 ∨ z / 5 % 2 = 1 := by omega
    rcases e with e | e <;> rw [e] <;> simp
    · exact ⟨.bin w2 g f, M3, ⟨rfl, rfl⟩, ⟨og, of1⟩, by simp [Fm.ht]; omega, by simp [Fm.size]; omega, by simpa using hM3⟩
    · exact ⟨.bin w2 f g, M3, ⟨rfl, rfl⟩, ⟨of1, og⟩, by simp [Fm.ht]; omega, by simp [Fm.size]; omega, by simpa using hM3⟩
  · rintro s ⟨f, M, a3, a4, a5, a6, rfl, of1, ht, hs, hM⟩
    simp
    exact ⟨f, of1, by omega, by omega, rfl⟩
/-- the sizes of what waits -/
def sizes (W : List Fm) : Nat := (W.map Fm.size).sum
theorem sizes_nil : sizes [] = 0 := rfl
theorem sizes_cons (f : Fm) (W : List Fm) : sizes (f :: W) = f.size + sizes W := by simp [sizes]
theorem sizes_app (A B : List Fm) : sizes (A ++ B) = sizes A + sizes B := by simp [sizes]
theorem size_pos (f : Fm) : 0 < f.size := by cases f <;> simp [Fm.size]
theorem flat_nm {nm : Nat → List Nat} {n k m : Nat} (h : Nms nm n) (hk : k < n) : D.flat m (.str (mkS (nm k))) = true := by
  unfold D.flat
  show PyData.strOk (mkS (nm k)) = true
  unfold PyData.strOk mkS
  simp only [List.all_toArray, List.all_eq_true, decide_eq_true_eq]
  intro c hc
  have := (h.1 k hk).2.2 c hc
  omega
theorem flat_dF {nm : Nat → List Nat} {n : Nat} (h : Nms nm n) : ∀ (f : Fm) (m : Nat), f.of nm n → f.ht ≤ m → D.flat m (dF f) = true
  | .num z, m + 1, _, _ => by simp [dF, D.flat]
  | .x, m + 1, _, _ => by simp [dF, D.flat]
  | .y, m + 1, _, _ => by simp [dF, D.flat]
  | .read s p q, m + 1, ⟨k, hk, e⟩, _ => by subst e; simp [dF, D.flat, flat_nm h hk]
  | .bin w a b, m + 1, ⟨oa, ob⟩, hm => by
    simp [Fm.ht] at hm
    have h1 := flat_dF h a m oa (by omega)
    have h2 := flat_dF h b m ob (by omega)
    simp [dF, D.flat, h1, h2]
  | .pick a b c, m + 1, ⟨oa, ob, oc⟩, hm => by
    simp [Fm.ht] at hm
    have h1 := flat_dF h a m oa (by omega)
    have h2 := flat_dF h b m ob (by omega)
    have h3 := flat_dF h c m oc (by omega)
    simp [dF, D.flat, h1, h2, h3]
  | f, 0, _, hm => by have := ht_pos f; omega
theorem ne_ne {l : List D} {k : T → Prop} (hn : l ≠ []) (h : ∀ d ∈ l, D.flat 39 d = true) : op2K fNe (.lst l) (.lst []) k = k (.imm (.bl true)) := by
  cases l with
  | nil => exact absurd rfl hn
  | cons a r =>
    refine ne_cons_nil ?_
    show (a :: r).all (D.flat 39) = true
    exact List.all_eq_true.mpr h
def rdBody : Ss := sSeq (sSetF 3 (sMeth 2 mPop aNil)) (sIf (sTest (sOp2 fEq (sOp2 fIx (sVar 3) (sCst (.int 0))) (sCst (.str "read")))) (sExpr (sMeth 1 mAppend (aVal (sSlice (sVar 3) (oSome (sCst (.int 1))) (oNone)) (aNil)))) (sIf (sTest (sOp2 fNotIn (sOp2 fIx (sVar 3) (sCst (.int 0))) (sTup (aVal (sCst (.str "number")) (aVal (sCst (.str "x")) (aVal (sCst (.str "y")) (aNil))))))) (sExpr (sMeth 2 mExtend (aVal (sUn fRev (sSlice (sVar 3) (oSome (sCst (.int 1))) (oNone))) (aNil)))) (sPass)))
theorem reads_len (f : Fm) : (reads f).length ≤ f.size := by
  induction f <;> simp [reads, Fm.size] <;> omega
theorem reads_loop {nm : Nat → List Nat} {n : Nat} (h : Nms nm n) {d0 : Option T} {K : Fl → St → Prop} {E : X → St → Prop} : ∀ (N : Nat) (W : List Fm) (R : List (Str × Int × Int)) (a3 : Option T), sizes W < N → (∀ f ∈ W, f.of nm n ∧ f.ht ≤ 12) → R.length + sizes W ≤ 1000 →
    (∀ a3, K .nx [d0, some (.lst (ims (dRds (R ++ W.reverse.flatMap reads)))), some (.lst []), a3]) →
    Run (loopW (sViewB (sTest (sOp2 fNe (sVar 2) (sLst (aNil))))) rdBody N) [d0, some (.lst (ims (dRds R))), some (.lst (ims (W.map dF))), a3] K E
  | 0, W, R, a3, hN, _, _, _ => by omega
  | N + 1, W, R, a3, hN, hW, hs, k => by
    rw [run_while]
    rcases List.eq_nil_or_concat W with rfl | ⟨W', f, rfl⟩
    · simp [frz1K_any]
      simpa using k a3
    · have hWf := hW f (by simp)
      have hW' : ∀ g ∈ W', g.of nm n ∧ g.ht ≤ 12 := fun g hg => hW g (by simp [hg])
      have hsz : sizes (W' ++ [f]) = sizes W' + f.size := by simp [sizes]
      have hlen : W'.length ≤ sizes W' := by
        clear hW hN hs k hW' hsz
        induction W' with
        | nil => simp [sizes]
        | cons a r ih => have := size_pos a; simp [sizes] at ih ⊢; omega
      have hne : ∀ {k : T → Prop}, op2K fNe (.lst ((W' ++ [f]).map dF)) (.lst []) k = k (.imm (.bl true)) := ne_ne (by simp) fun d hd => by
        obtain ⟨g, hg, rfl⟩ := List.mem_map.mp hd
        exact flat_dF h g 39 (hW g (by simpa using hg)).1 (by have := (hW g (by simpa using hg)).2; omega)
      rw [show W'.concat f = W' ++ [f] by simp] at *
      simp [frz1K_any] at hne ⊢
      rw [hne]
      simp [rdBody]
      rw [ims_append, show ims [dF f] = [T.imm (dF f)] from rfl, meth_pop]
      simp [ix0_dF]
      have go := fun W2 R2 a3 hN hW hs k => reads_loop h (d0 := d0) (K := K) (E := E) N W2 R2 a3 hN hW hs k
      rcases f with z | _ | _ | ⟨s, p, q⟩ | ⟨w, a, b⟩ | ⟨a, b, c⟩
      · simp [Fm.word, o2_notIn_tup, ifK]
        refine go W' R _ (by simp [Fm.size] at hsz; omega) hW' (by omega) fun a3 => ?_
        simpa [reads] using k a3
      · simp [Fm.word, o2_notIn_tup, ifK]
        refine go W' R _ (by simp [Fm.size] at hsz; omega) hW' (by omega) fun a3 => ?_
        simpa [reads] using k a3
      · simp [Fm.word, o2_notIn_tup, ifK]
        refine go W' R _ (by simp [Fm.size] at hsz; omega) hW' (by omega) fun a3 => ?_
        simpa [reads] using k a3
      · simp [Fm.word, dF, cutAt]
        refine ⟨by simp [dRds]; omega, ?_⟩
        have e : ims (dRds R) ++ [T.imm (.tup [.str s, .int p, .int q])] = ims (dRds (R ++ [(s, p, q)])) := by simp [dRds, ims, dRd]
        rw [e]
        refine go W' (R ++ [(s, p, q)]) _ (by simp [Fm.size] at hsz; omega) hW' (by simp [Fm.size] at hsz; simp; omega) fun a3 => ?_
        simpa [reads] using k a3
      · simp [Fm.word, dF, cutAt, o2_notIn_tup]
        simp [Fm.of, Fm.ht] at hWf
        simp [Fm.size] at hsz
        refine ⟨by omega, ?_⟩
        have e : ims (W'.map dF) ++ [T.imm (dF b), T.imm (dF a)] = ims ((W' ++ [b, a]).map dF) := by simp [ims]
        rw [e]
        refine go (W' ++ [b, a]) R _ (by simp only [sizes_app, sizes_cons, sizes_nil]; omega) ?_ (by simp only [sizes_app, sizes_cons, sizes_nil]; omega) fun a3 => ?_
        · intro g hg
          simp at hg
          rcases hg with hg | rfl | rfl
          · exact hW' g hg
          · exact ⟨hWf.1.2, by omega⟩
          · exact ⟨hWf.1.1, by omega⟩
        · simpa [reads] using k a3
      · simp [Fm.word, dF, cutAt, o2_notIn_tup]
        simp [Fm.of, Fm.ht] at hWf
        simp [Fm.size] at hsz
        refine ⟨by omega, ?_⟩
        have e : ims (W'.map dF) ++ [T.imm (dF c), T.imm (dF b), T.imm (dF a)] = ims ((W' ++ [c, b, a]).map dF) := by simp [ims]
        rw [e]
        refine go (W' ++ [c, b, a]) R _ (by simp only [sizes_app, sizes_cons, sizes_nil]; omega) ?_ (by simp only [sizes_app, sizes_cons, sizes_nil]; omega) fun a3 => ?_
        · intro g hg
          simp at hg
          rcases hg with hg | rfl | rfl | rfl
          · exact hW' g hg
          · exact ⟨hWf.1.2.2, by omega⟩
          · exact ⟨hWf.1.2.1, by omega⟩
          · exact ⟨hWf.1.1, by omega⟩
        · simpa [reads] using k a3
theorem reads_run {nm : Nat → List Nat} {n : Nat} (h : Nms nm n) {f : Fm} (o : f.of nm n) (ht : f.ht ≤ 12) (hs : f.size ≤ 500) {K : KF} {E g} : RunF s_l_reads [.imm (dF f)] K E g = K (.lst (ims (dRds (reads f)))) [none] := by
  refine Sp.eqn ?_
  rw [s_l_reads, sp_def (by rfl) (by decide), s_l_readsB]
  simp
  refine reads_loop h 100000 [f] [] _ (by simp [sizes]; omega) (fun g hg => by simp at hg; subst hg; exact ⟨o, ht⟩) (by simp [sizes]; omega) fun a3 => ?_
  simp
theorem flat_reads {nm : Nat → List Nat} {n : Nat} (h : Nms nm n) : ∀ (f : Fm), f.of nm n → ∀ r ∈ reads f, D.flat 38 (.str r.1) = true
  | .num z, _, r, hr => by simp [reads] at hr
  | .x, _, r, hr => by simp [reads] at hr
  | .y, _, r, hr => by simp [reads] at hr
  | .read s p q, ⟨k, hk, e⟩, r, hr => by
    simp [reads] at hr; subst hr; subst e; exact flat_nm h hk
  | .bin w a b, ⟨oa, ob⟩, r, hr => by
    simp [reads] at hr
    rcases hr with hr | hr
    · exact flat_reads h a oa r hr
    · exact flat_reads h b ob r hr
  | .pick a b c, ⟨oa, ob, oc⟩, r, hr => by
    simp [reads] at hr
    rcases hr with hr | hr | hr
    · exact flat_reads h a oa r hr
    · exact flat_reads h b ob r hr
    · exact flat_reads h c oc r hr
theorem flat_dRds {l : List (Str × Int × Int)} (h : ∀ r ∈ l, D.flat 38 (.str r.1) = true) : D.flat 40 (.lst (dRds l)) = true := by
  show (dRds l).all (D.flat 39) = true
  rw [List.all_eq_true]
  intro d hd
  obtain ⟨r, hr, rfl⟩ := List.mem_map.mp hd
  have := h r hr
  simp [dRd, D.flat] at this ⊢
  exact this
end G
set_option Elab.async false
set_option linter.all false
set_option maxRecDepth 100000
set_option maxHeartbeats 4000000
/-! What a law draws. -/
namespace G
open PySem PySem.Builtin.Int
theorem whole_int {i : Int} {K : KF} {E g} : RunF s_l_whole [.imm (.int i)] K E g = K (.imm (.bl true)) [none] := by
  rw [s_l_whole, run_def (by rfl) (by decide), s_l_wholeB]
  simp
theorem atI_any {α : Type} {l : List α} {i : Int} (h : -(l.length : Int) ≤ i) (h' : i < l.length) : ∃ d, atI l i = some d ∧ d ∈ l := by
  unfold atI
  by_cases q : 0 ≤ i
  · rw [if_pos q]
    have : i.toNat < l.length := by omega
    exact ⟨l[i.toNat], by simp [this], List.getElem_mem _⟩
  · rw [if_neg q, if_pos (by omega)]
    have : (i + l.length).toNat < l.length := by omega
    exact ⟨l[(i + l.length).toNat], by simp [this], List.getElem_mem _⟩
theorem script_at {ns : List Int} {i : Int} (h : -(ns.length : Int) ≤ i) (h' : i < ns.length) : ∃ z, atI (ns.map D.int) i = some (.int z) ∧ z ∈ ns := by
  obtain ⟨d, e, m⟩ := atI_any (l := ns.map D.int) (i := i) (by simpa using h) (by simpa using h')
  obtain ⟨z, hz, rfl⟩ := List.mem_map.mp m
  exact ⟨z, e, hz⟩
theorem drawn_at_run {ns : List Int} (hb : ∀ z ∈ ns, intBits z ≤ 1048576) (k : Int) (h0 : 0 ≤ k) : Sp s_l_drawn_at [.imm (script ns), .imm (.int k)] fun t ps => ps = [none, none] ∧ ∃ v, Bd 1048576 v ∧ t = .imm (.int v) := by
  rw [s_l_drawn_at, sp_def (by rfl) (by decide), s_l_drawn_atB, script]
  simp
  refine ⟨fun h => ?_, fun _ => Bd.lit (by decide)⟩
  obtain ⟨z, e, m⟩ := script_at (ns := ns) (i := k) (by omega) h
  rw [e]
  simp
  exact hb z m
theorem measure_run {d : Int} (hd : Bd 2000000 d) : Sp s_l_measure [.imm (.int d)] fun t ps => ps = [none] ∧ ∃ v, (2 ≤ v ∧ v ≤ 10 ^ 60) ∧ t = .imm (.int v) := by
  rw [s_l_measure, sp_def (by rfl) (by decide), s_l_measureB]
  simp
  have h1 := Bd.mulOk hd hd (by decide)
  have h2 := bits_le ((hd.mul hd).add hd)
  rw [mulLine_eq] at h1
  refine ⟨fun _ => ?_, fun _ => ⟨fun _ => by omega, fun _ => ⟨h1, by omega, by omega, by omega⟩⟩⟩
  have e : d / 4 % 6 = 0 ∨ d / 4 % 6 = 1 ∨ d / 4 % 6 = 2 ∨ d / 4 % 6 = 3 ∨ d / 4 % 6 = 4 ∨ d / 4 % 6 = 5 := by omega
  rcases e with e | e | e | e | e | e <;> rw [e] <;> simp
theorem signed_run {d : Int} (hd : Bd 2000000 d) : Sp s_l_signed [.imm (.int d)] fun t ps => ps = [none] ∧ ∃ v, (-(10 ^ 60) ≤ v ∧ v ≤ 10 ^ 60) ∧ t = .imm (.int v) := by
  rw [s_l_signed, sp_def (by rfl) (by decide), s_l_signedB]
  simp
  have h1 := Bd.mulOk hd hd (by decide)
  have h2 := bits_le (((hd.mul hd).add hd).add (j := 1) (n := 1) (Bd.lit (by decide +kernel)))
  rw [mulLine_eq] at h1
  refine ⟨fun _ => by omega, fun _ => ⟨fun _ => by omega, fun _ => ⟨h1, by omega, ?_⟩⟩⟩
  have hq : 0 ≤ (d * d + d + 1) * 982451653 % 1000000000000000009 ∧ (d * d + d + 1) * 982451653 % 1000000000000000009 < 1000000000000000009 := by omega
  generalize (d * d + d + 1) * 982451653 % 1000000000000000009 = q at hq ⊢
  have bq : Bd 60 q := Bd.range (by omega) (by omega)
  have b1 := Bd.mulOk bq bq (by decide)
  have b2 := Bd.mulOk (bq.mul bq) bq (by decide)
  have b3 := bits_le ((bq.mul bq).mul bq)
  rw [mulLine_eq] at b1 b2
  exact ⟨b1, b2, by omega, by omega, by omega⟩
theorem digits2_run (ns : List Int) (a p : Int) (hl : ns.length ≤ 63) (h0 : 0 ≤ a) (h1 : a ≤ 1000) (h2 : 0 < p) (h3 : p ≤ 1000) : Sp s_l_digits2 [.imm (script ns), .imm (.int a), .imm (.int p)] (fun t ps => ps = [none, none, none] ∧ ∃ L : List Int, Purse 120 L ∧ t = .lst (ims (L.map D.int))) := by
  rw [s_l_digits2, sp_def (by rfl) (by decide), s_l_digits2B, script]
  simp
  have ea : (if 63 < (ns.length : Int) then 63 else (ns.length : Int)) = ns.length := if_neg (by omega)
  rw [ea]
  refine ⟨by omega, RunLC.draw rfl rfl (fun i hi => ⟨by have := Int.mul_nonneg (Int.le_of_lt h2) (Int.natCast_nonneg i); omega, rng3_lt h2 hi⟩) (by have := rng3_len (m := ns.length) h2 h0; unfold line; omega) fun L hL1 hL2 => ?_⟩
  simp
  generalize L.sum = dr
  refine RunL.rng0 (fun j s => ∃ (a6 a7 : Int) (a4 : Option T) (M : List Int), s = [some (.imm (.rol (ns.map D.int))), some (.imm (.int a)), some (.imm (.int p)), some (.imm (.int dr)), a4, some (.lst (ims (M.map D.int))), some (.imm (.int a6)), some (.imm (.int a7))] ∧ 0 ≤ a6 ∧ a6 < 2147483629 ∧ M.length = j ∧ ∀ z ∈ M, 0 ≤ z ∧ z < 1000003) ?_ ?_ ?_
  · rintro i s hi ⟨a6, a7, a4, M, rfl, h4, h5, h6, h7⟩
    simp
    have hm : 0 ≤ (a6 * a6 + dr + ↑i) % 2147483629 ∧ (a6 * a6 + dr + ↑i) % 2147483629 < 2147483629 := by omega
    generalize (a6 * a6 + dr + ↑i) % 2147483629 = b at hm ⊢
    refine ⟨Bd.mulOk (m := 32) (n := 32) (Bd.range (by omega) (by omega)) (Bd.range (by omega) (by omega)) (by decide), Bd.mulOk (m := 32) (n := 32) (Bd.range (by omega) (by omega)) (Bd.range (by omega) (by omega)) (by decide), ?_⟩
    have hd : dr % 2 = 0 ∨ dr % 2 = 1 := by omega
    have last : ∀ z : Int, M.length < 16777216 ∧ ∃ a6_1 a7_1 a4 M_1, (some (T.imm (D.int ↑i)) = a4 ∧ ims (List.map D.int M) ++ [T.imm (D.int (z % 1000003))] = ims (List.map D.int M_1) ∧ b = a6_1 ∧ a7 / 1000003 = a7_1) ∧ 0 ≤ a6_1 ∧ a6_1 < 2147483629 ∧ M_1.length = i + 1 ∧ ∀ (z : Int), z ∈ M_1 → 0 ≤ z ∧ z < 1000003 := by
      intro z
      refine ⟨by omega, b, _, _, M ++ [z % 1000003], ⟨rfl, by simp [ims], rfl, rfl⟩, hm.1, hm.2, by simp [h6], ?_⟩
      intro y hy
      rcases List.mem_append.mp hy with q | q
      · exact h7 y q
      · simp at q; subst q; omega
    rcases hd with e | e <;> rw [e] <;> simp <;> simpa using last _
  · rintro s ⟨a6, a7, a4, M, rfl, h4, h5, h6, h7⟩
    simp
    exact ⟨M.reverse, ⟨by simpa using h6, by simpa using h7⟩, by simp⟩
  · exact ⟨_, _, _, [], rfl, by omega, by omega, rfl, by simp⟩
end G
set_option Elab.async false
set_option linter.all false
set_option maxRecDepth 100000
set_option maxHeartbeats 4000000
namespace G
open PySem PySem.Builtin.Int
theorem lworth_run {m x y : Int} (hm : 0 < m) (hm2 : m ≤ 10 ^ 60) : ∀ (n : Nat) (f : Fm) (A R : List Int), f.ht ≤ n → A.length = (reads f).length →
    Sp (s_l_worth n) [.imm (dF f), .imm (.int m), .imm (.int x), .imm (.int y), .lst (ims ((A ++ R).map D.int))] fun r ps => r = .imm (.int (worthF m x y f A)) ∧ ps = [none, none, none, none, some (.lst (ims (R.map D.int)))]
  | 0, f, A, R, h, _ => by have := ht_pos f; omega
  | n + 1, f, A, R, h, hl => by
    rw [show s_l_worth (n + 1) = sDef 5 7 [4] (s_l_worthB (s_l_worth n)) from rfl, sp_def (by rfl) (by decide), s_l_worthB]
    simp [ix0_dF]
    rcases f with z | _ | _ | ⟨s, p, q⟩ | ⟨w, a, b⟩ | ⟨a, b, c⟩
    · obtain rfl := List.length_eq_zero_iff.mp hl
      simp [Fm.word, dF, worthF, hm]
    · obtain rfl := List.length_eq_zero_iff.mp hl
      simp [Fm.word, dF, worthF, hm]
    · obtain rfl := List.length_eq_zero_iff.mp hl
      simp [Fm.word, dF, worthF, hm]
    · obtain ⟨z, rfl⟩ := List.length_eq_one_iff.mp hl
      simp [Fm.word, dF, worthF, hm]
    · simp [Fm.ht] at h
      simp [reads] at hl
      obtain ⟨A, B, rfl, hA⟩ : ∃ A' B, A = A' ++ B ∧ A'.length = (reads a).length := ⟨A.take (reads a).length, A.drop (reads a).length, by simp, by simp; omega⟩
      have hB : B.length = (reads b).length := by simp at hl; omega
      have ia : ∀ {K : KF} {E g}, RunF (s_l_worth n) [.imm (dF a), .imm (.int m), .imm (.int x), .imm (.int y), .lst (ims (A.map D.int ++ (B.map D.int ++ R.map D.int)))] K E g = K (.imm (.int (worthF m x y a A))) [none, none, none, none, some (.lst (ims (B.map D.int ++ R.map D.int)))] := by
        intro K E g
        have := Sp.eqn (K := K) (E := E) (g := ⟨⟩) (lworth_run (x := x) (y := y) hm hm2 n a A (B ++ R) (by omega) hA)
        rw [List.map_append, List.map_append] at this
        exact this
      have ib : ∀ {K : KF} {E g}, RunF (s_l_worth n) [.imm (dF b), .imm (.int m), .imm (.int x), .imm (.int y), .lst (ims (B.map D.int ++ R.map D.int))] K E g = K (.imm (.int (worthF m x y b B))) [none, none, none, none, some (.lst (ims (R.map D.int)))] := by
        intro K E g
        have := Sp.eqn (K := K) (E := E) (g := ⟨⟩) (lworth_run (x := x) (y := y) hm hm2 n b B R (by omega) hB)
        rw [List.map_append] at this
        exact this
      have wa := worth_range (x := x) (y := y) hm a A
      have wb := worth_range (x := x) (y := y) hm b B
      have hmul := Bd.mulOk (i := worthF m x y a A) (j := worthF m x y b B) (m := 200) (n := 200) (Bd.range (by omega) (by omega)) (Bd.range (by omega) (by omega)) (by decide)
      rw [mulLine_eq] at hmul
      cases w <;> simp [Fm.word, W2.s, dF, runLC_cons, runLC_nil, ia, ib, worthF, cutAt, ← hA, W2.app, hm, hmul]
      · simp [srt, ins]
        by_cases q : worthF m x y a A ≤ worthF m x y b B
        · have q' : ¬ worthF m x y b B < worthF m x y a A := by omega
          simp [q, q']
        · have q' : worthF m x y b B < worthF m x y a A := by omega
          simp [q, q']
      · simp [srt, ins]
        by_cases q : worthF m x y a A ≤ worthF m x y b B
        · by_cases e : worthF m x y a A = worthF m x y b B
          · simp [q, e]
          · have q' : worthF m x y a A < worthF m x y b B := by omega
            simp [q, q']
        · have q' : ¬ worthF m x y a A < worthF m x y b B := by omega
          simp [q, q']
    · simp [Fm.ht] at h
      simp [reads] at hl
      obtain ⟨A, B, C, rfl, hA, hB⟩ : ∃ A' B C, A = A' ++ (B ++ C) ∧ A'.length = (reads a).length ∧ B.length = (reads b).length := ⟨A.take (reads a).length, (A.drop (reads a).length).take (reads b).length, (A.drop (reads a).length).drop (reads b).length, by rw [List.take_append_drop, List.take_append_drop], by simp; omega, by simp; omega⟩
      have hC : C.length = (reads c).length := by simp at hl; omega
      have ia : ∀ {K : KF} {E g}, RunF (s_l_worth n) [.imm (dF a), .imm (.int m), .imm (.int x), .imm (.int y), .lst (ims (A.map D.int ++ (B.map D.int ++ (C.map D.int ++ R.map D.int))))] K E g = K (.imm (.int (worthF m x y a A))) [none, none, none, none, some (.lst (ims (B.map D.int ++ (C.map D.int ++ R.map D.int))))] := by
        intro K E g
        have := Sp.eqn (K := K) (E := E) (g := ⟨⟩) (lworth_run (x := x) (y := y) hm hm2 n a A (B ++ (C ++ R)) (by omega) hA)
        rw [List.map_append, List.map_append, List.map_append] at this
        exact this
      have ib : ∀ {K : KF} {E g}, RunF (s_l_worth n) [.imm (dF b), .imm (.int m), .imm (.int x), .imm (.int y), .lst (ims (B.map D.int ++ (C.map D.int ++ R.map D.int)))] K E g = K (.imm (.int (worthF m x y b B))) [none, none, none, none, some (.lst (ims (C.map D.int ++ R.map D.int)))] := by
        intro K E g
        have := Sp.eqn (K := K) (E := E) (g := ⟨⟩) (lworth_run (x := x) (y := y) hm hm2 n b B (C ++ R) (by omega) hB)
        rw [List.map_append, List.map_append] at this
        exact this
      have ic : ∀ {K : KF} {E g}, RunF (s_l_worth n) [.imm (dF c), .imm (.int m), .imm (.int x), .imm (.int y), .lst (ims (C.map D.int ++ R.map D.int))] K E g = K (.imm (.int (worthF m x y c C))) [none, none, none, none, some (.lst (ims (R.map D.int)))] := by
        intro K E g
        have := Sp.eqn (K := K) (E := E) (g := ⟨⟩) (lworth_run (x := x) (y := y) hm hm2 n c C R (by omega) hC)
        rw [List.map_append] at this
        exact this
      simp [Fm.word, dF, runLC_cons, runLC_nil, ia, ib, ic, worthF, cutAt, ← hA, ← hB]
      by_cases q : worthF m x y a A = 0 <;> simp [q]
theorem pure_law (ns : List Int) (hl : ns.length ≤ 63) (hb : ∀ z ∈ ns, PySem.Builtin.Int.intBits z ≤ 1048576) : True' s_l_law7 ns := by
  refine True'.mk ?_
  rw [s_l_law7, sp_def (by rfl) (by decide), s_l_law7B]
  simp
  refine (drawn_at_run hb 0 (by omega)).k ?_
  rintro _ _ ⟨rfl, d0, hd0, rfl⟩
  simp
  refine (measure_run (hd0.mono (by decide))).k ?_
  rintro _ _ ⟨rfl, m, hm, rfl⟩
  simp
  refine (drawn_at_run hb 1 (by omega)).k ?_
  rintro _ _ ⟨rfl, d1, hd1, rfl⟩
  simp
  refine (names_run (hd1.mono (by decide)) 5 (by omega)).k ?_
  rintro _ _ ⟨rfl, nm, hnm, rfl⟩
  simp
  refine RunL.rng0 (n := 3) (fun _ s => ∃ a3 a4 a5 a6 a7 a8 a9 a10 a11 : Option T, s = [some (.imm (script ns)), some (.imm (.int m)), some (.imm (.lst (dNs nm 5))), a3, a4, a5, a6, a7, a8, a9, a10, a11]) ?_ ?_ ⟨_, _, _, _, _, _, _, _, _, rfl⟩
  · rintro i s hi ⟨a3, a4, a5, a6, a7, a8, a9, a10, a11, rfl⟩
    simp
    refine (digits2_run ns i 3 hl (by omega) (by omega) (by omega) (by omega)).k ?_
    rintro _ _ ⟨rfl, L, hL, rfl⟩
    simp
    refine (grown_run (nm := nm) (n := 5) (by omega) (by omega) (L := L) ⟨by have := hL.1; omega, hL.2⟩).k ?_
    rintro _ _ ⟨⟨o, rfl⟩, f, of1, hf, hs, rfl⟩
    simp
    refine (drawn_at_run hb _ (by omega)).k ?_
    rintro _ _ ⟨rfl, dx, hdx, rfl⟩
    simp
    refine (drawn_at_run hb _ (by omega)).k ?_
    rintro _ _ ⟨rfl, dy, hdy, rfl⟩
    simp
    refine (signed_run (hdy.mono (by decide))).k ?_
    rintro _ _ ⟨rfl, y, hy, rfl⟩
    have hr := reads_len f
    have e2 : ∀ {K : KF} {E g}, RunF s_l_reads [.imm (dF f)] K E g = K (.lst (ims (dRds (reads f)))) [none] := reads_run hnm of1 (by omega) (by omega)
    simp [e2, dRds]
    generalize dx % 301 - 100 = x
    refine ⟨by omega, ?_⟩
    refine RunL.rng0 (fun j s => ∃ (N : List Int) (b8 b9 : Option T), s = [some (.imm (script ns)), some (.imm (.int m)), some (.imm (.lst (dNs nm 5))), some (.imm (.int i)), some (.imm (dF f)), some (.imm (.int x)), some (.imm (.int y)), some (.lst (ims (N.map D.int))), b8, b9, a10, a11] ∧ N.length = j) ?_ ?_ ⟨[], _, _, rfl, rfl⟩
    · rintro j s hj ⟨N, b8, b9, rfl, hN⟩
      have b1 : bits (j : Int) + bits ((i : Int) + 1) < 134000000 := by
        have := bits_le (Bd.range (m := 60) (i := (j : Int)) (by omega) (by omega))
        have := bits_le (Bd.range (m := 60) (i := (i : Int) + 1) (by omega) (by omega))
        omega
      simp [script, b1]
      obtain ⟨w, hw, hw0⟩ : ∃ w : Int, (if 1 < (ns.length : Int) then (ns.length : Int) else 1) = w ∧ 0 < w := ⟨_, rfl, by split <;> omega⟩
      rw [hw]
      refine ⟨hw0, ?_⟩
      refine (drawn_at_run hb _ (Int.emod_nonneg _ (by omega))).k ?_
      rintro _ _ ⟨rfl, dz, hdz, rfl⟩
      simp
      refine (signed_run ((hdz.add (j := (j : Int)) (n := 60) (Bd.range (by omega) (by omega))).mono (by decide))).k ?_
      rintro _ _ ⟨rfl, z, hz, rfl⟩
      simp
      refine ⟨by omega, N ++ [z], by simp [ims], by simpa using hN⟩
    · rintro s ⟨N, b8, b9, rfl, hN⟩
      have hw : ∀ {K : KF} {E g}, RunF (s_f_worth 12) [.imm (dF f), .imm (.int m), .imm (.int x), .imm (.int y), .imm (.lst (N.map D.int))] K E g = K (.imm (.int (worthF m x y f N))) [none, none, none, none, none] := Sp.eqn (worth_run (x := x) (y := y) (by omega) hm.2 12 f N _ (by omega) (by omega) (by omega) hN (.inl rfl))
      have hw2 : ∀ {K : KF} {E g}, RunF (s_l_worth 12) [.imm (dF f), .imm (.int m), .imm (.int x), .imm (.int y), .lst (ims (N.map D.int))] K E g = K (.imm (.int (worthF m x y f N))) [none, none, none, none, some (.lst [])] := by
        intro K E g
        have := Sp.eqn (K := K) (E := E) (g := ⟨⟩) (lworth_run (x := x) (y := y) (by omega) hm.2 12 f N [] (by omega) hN)
        rw [List.append_nil] at this
        exact this
      have hf : D.flat 40 (.lst (N.map D.int)) = true := flat_ints 39 N
      simp [hw, hw2, whole_int, ne_self' hf, frz1K_any]
  · rintro s ⟨a3, a4, a5, a6, a7, a8, a9, a10, a11, rfl⟩
    simp
end G
set_option Elab.async false
set_option linter.all false
set_option maxRecDepth 100000
set_option maxHeartbeats 4000000
namespace W
open PySem PySem.Spec PyProof.Rows L2 G
def topS (i : Nat) : Stmt := PySem.Challenge.pw_stripmill_k03_whole_worth.main.body.getD i (.Pass ⟨0, 0, 0, 0⟩)
abbrev st_l_measure : Stmt := topS 9
abbrev N_l_measure : List Str := ["_law_drawn", "_law_some"]
theorem sc_l_measure : FnScope N_l_measure ["_law_drawn"] (defScope st_l_measure) := ⟨rfl, rfl, rfl, by decide +kernel, rfl, by decide +kernel, by decide +kernel⟩
abbrev st_l_names : Stmt := topS 12
abbrev N_l_names : List Str := ["_law_drawn", "_law_count", "_law_letters", "_law_mixed_here", "_law_long", "_law_at", "_law_base", "_law_k", "_law_step", "_law_found", "_law_turned_on"]
theorem sc_l_names : FnScope N_l_names ["_law_drawn", "_law_count"] (defScope st_l_names) := ⟨rfl, rfl, rfl, by decide +kernel, rfl, by decide +kernel, by decide +kernel⟩
abbrev st_l_drawn_at : Stmt := topS 6
abbrev N_l_drawn_at : List Str := ["_law_script", "_law_k"]
theorem sc_l_drawn_at : FnScope N_l_drawn_at ["_law_script", "_law_k"] (defScope st_l_drawn_at) := ⟨rfl, rfl, rfl, by decide +kernel, rfl, by decide +kernel, by decide +kernel⟩
abbrev st_l_number : Stmt := topS 10
abbrev N_l_number : List Str := ["_law_drawn", "_law_first"]
theorem sc_l_number : FnScope N_l_number ["_law_drawn"] (defScope st_l_number) := ⟨rfl, rfl, rfl, by decide +kernel, rfl, by decide +kernel, by decide +kernel⟩
abbrev st_l_leaf : Stmt := topS 14
abbrev N_l_leaf : List Str := ["_law_names_here", "_law_digit", "_law_purse", "_law_way", "_law_number_here", "_law_k", "_law_name"]
theorem sc_l_leaf : FnScope N_l_leaf ["_law_names_here", "_law_digit", "_law_purse"] (defScope st_l_leaf) := ⟨rfl, rfl, rfl, by decide +kernel, rfl, by decide +kernel, by decide +kernel⟩
abbrev st_l_formula : Stmt := topS 15
abbrev N_l_formula : List Str := ["_law_names_here", "_law_purse", "_law_down", "_law_digit", "_law_word", "_law_parts", "_law_k"]
theorem sc_l_formula : FnScope N_l_formula ["_law_names_here", "_law_purse", "_law_down"] (defScope st_l_formula) := ⟨rfl, rfl, rfl, by decide +kernel, rfl, by decide +kernel, by decide +kernel⟩
abbrev st_l_grown : Stmt := topS 16
abbrev N_l_grown : List Str := ["_law_names_here", "_law_purse", "_law_formula_here", "_law_k", "_law_digit", "_law_leaf_here", "_law_word"]
theorem sc_l_grown : FnScope N_l_grown ["_law_names_here", "_law_purse"] (defScope st_l_grown) := ⟨rfl, rfl, rfl, by decide +kernel, rfl, by decide +kernel, by decide +kernel⟩
abbrev st_l_signed : Stmt := topS 11
abbrev N_l_signed : List Str := ["_law_drawn", "_law_first"]
theorem sc_l_signed : FnScope N_l_signed ["_law_drawn"] (defScope st_l_signed) := ⟨rfl, rfl, rfl, by decide +kernel, rfl, by decide +kernel, by decide +kernel⟩
abbrev st_f_worth_of_deed : Stmt := topS 3
abbrev N_f_worth_of_deed : List Str := ["word", "measure", "rests"]
theorem sc_f_worth_of_deed : FnScope N_f_worth_of_deed ["word", "measure", "rests"] (defScope st_f_worth_of_deed) := ⟨rfl, rfl, rfl, by decide +kernel, rfl, by decide +kernel, by decide +kernel⟩
abbrev st_f_formulas_in : Stmt := topS 1
abbrev N_f_formulas_in : List Str := ["formula"]
theorem sc_f_formulas_in : FnScope N_f_formulas_in ["formula"] (defScope st_f_formulas_in) := ⟨rfl, rfl, rfl, by decide +kernel, rfl, by decide +kernel, by decide +kernel⟩
abbrev st_f_reads_of : Stmt := topS 2
abbrev N_f_reads_of : List Str := ["formula", "found", "one"]
theorem sc_f_reads_of : FnScope N_f_reads_of ["formula"] (defScope st_f_reads_of) := ⟨rfl, rfl, rfl, by decide +kernel, rfl, by decide +kernel, by decide +kernel⟩
abbrev st_f_worth : Stmt := topS 4
abbrev N_f_worth : List Str := ["formula", "measure", "x", "y", "numbers", "rests", "at", "one", "many"]
theorem sc_f_worth : FnScope N_f_worth ["formula", "measure", "x", "y", "numbers"] (defScope st_f_worth) := ⟨rfl, rfl, rfl, by decide +kernel, rfl, by decide +kernel, by decide +kernel⟩
abbrev st_l_digits : Stmt := topS 13
abbrev N_l_digits : List Str := ["_law_script", "_law_at", "_law_parts", "_law_drawn", "_law_k", "_law_found", "_law_first", "_law_rest"]
theorem sc_l_digits : FnScope N_l_digits ["_law_script", "_law_at", "_law_parts"] (defScope st_l_digits) := ⟨rfl, rfl, rfl, by decide +kernel, rfl, by decide +kernel, by decide +kernel⟩
abbrev st_l_worth : Stmt := topS 18
abbrev N_l_worth : List Str := ["_law_formula_here", "_law_measure_here", "_law_x", "_law_y", "_law_numbers", "_law_rests", "_law_one"]
theorem sc_l_worth : FnScope N_l_worth ["_law_formula_here", "_law_measure_here", "_law_x", "_law_y", "_law_numbers"] (defScope st_l_worth) := ⟨rfl, rfl, rfl, by decide +kernel, rfl, by decide +kernel, by decide +kernel⟩
abbrev st_l_reads : Stmt := topS 17
abbrev N_l_reads : List Str := ["_law_formula_here", "_law_found", "_law_waiting", "_law_one"]
theorem sc_l_reads : FnScope N_l_reads ["_law_formula_here"] (defScope st_l_reads) := ⟨rfl, rfl, rfl, by decide +kernel, rfl, by decide +kernel, by decide +kernel⟩
abbrev st_l_whole : Stmt := topS 7
abbrev N_l_whole : List Str := ["_law_found"]
theorem sc_l_whole : FnScope N_l_whole ["_law_found"] (defScope st_l_whole) := ⟨rfl, rfl, rfl, by decide +kernel, rfl, by decide +kernel, by decide +kernel⟩
abbrev st_l_law : Stmt := topS 19
abbrev N_l_law : List Str := ["_law_script", "_law_measure_here", "_law_names_here", "_law_k", "_law_formula_here", "_law_x", "_law_y", "_law_numbers", "_law_j", "_law_drawn", "_law_handed", "_law_found"]
theorem sc_l_law : FnScope N_l_law ["_law_script"] (defScope st_l_law) := ⟨rfl, rfl, rfl, by decide +kernel, rfl, by decide +kernel, by decide +kernel⟩
structure Tx (K : PySem.W.Frag) (mg : Str → Option Value) where
  f_l_measure : Addr
  d_l_measure : FuncData
  F_l_measure : Fun K "_law_measure" "_law_measure" st_l_measure f_l_measure d_l_measure
  f_l_names : Addr
  d_l_names : FuncData
  F_l_names : Fun K "_law_names" "_law_names" st_l_names f_l_names d_l_names
  f_l_drawn_at : Addr
  d_l_drawn_at : FuncData
  F_l_drawn_at : Fun K "_law_drawn_at" "_law_drawn_at" st_l_drawn_at f_l_drawn_at d_l_drawn_at
  f_l_number : Addr
  d_l_number : FuncData
  F_l_number : Fun K "_law_number" "_law_number" st_l_number f_l_number d_l_number
  f_l_leaf : Addr
  d_l_leaf : FuncData
  F_l_leaf : Fun K "_law_leaf" "_law_leaf" st_l_leaf f_l_leaf d_l_leaf
  f_l_formula : Addr
  d_l_formula : FuncData
  F_l_formula : Fun K "_law_formula" "_law_formula" st_l_formula f_l_formula d_l_formula
  f_l_grown : Addr
  d_l_grown : FuncData
  F_l_grown : Fun K "_law_grown" "_law_grown" st_l_grown f_l_grown d_l_grown
  f_l_signed : Addr
  d_l_signed : FuncData
  F_l_signed : Fun K "_law_signed" "_law_signed" st_l_signed f_l_signed d_l_signed
  f_f_worth_of_deed : Addr
  d_f_worth_of_deed : FuncData
  F_f_worth_of_deed : Fun K "worth_of_deed" "worth_of_deed" st_f_worth_of_deed f_f_worth_of_deed d_f_worth_of_deed
  f_f_formulas_in : Addr
  d_f_formulas_in : FuncData
  F_f_formulas_in : Fun K "formulas_in" "formulas_in" st_f_formulas_in f_f_formulas_in d_f_formulas_in
  f_f_reads_of : Addr
  d_f_reads_of : FuncData
  F_f_reads_of : Fun K "reads_of" "reads_of" st_f_reads_of f_f_reads_of d_f_reads_of
  f_f_worth : Addr
  d_f_worth : FuncData
  F_f_worth : Fun K "worth" "worth" st_f_worth f_f_worth d_f_worth
  f_l_digits : Addr
  d_l_digits : FuncData
  F_l_digits : Fun K "_law_digits" "_law_digits" st_l_digits f_l_digits d_l_digits
  f_l_worth : Addr
  d_l_worth : FuncData
  F_l_worth : Fun K "_law_worth" "_law_worth" st_l_worth f_l_worth d_l_worth
  f_l_reads : Addr
  d_l_reads : FuncData
  F_l_reads : Fun K "_law_reads" "_law_reads" st_l_reads f_l_reads d_l_reads
  f_l_whole : Addr
  d_l_whole : FuncData
  F_l_whole : Fun K "_law_whole" "_law_whole" st_l_whole f_l_whole d_l_whole
  f_l_law : Addr
  d_l_law : FuncData
  F_l_law : Fun K "law" "law" st_l_law f_l_law d_l_law
  m_l_digits : mg "_law_digits" = some (.ref f_l_digits)
  m_l_drawn_at : mg "_law_drawn_at" = some (.ref f_l_drawn_at)
  m_l_formula : mg "_law_formula" = some (.ref f_l_formula)
  m_l_grown : mg "_law_grown" = some (.ref f_l_grown)
  m_l_leaf : mg "_law_leaf" = some (.ref f_l_leaf)
  m_l_measure : mg "_law_measure" = some (.ref f_l_measure)
  m_l_names : mg "_law_names" = some (.ref f_l_names)
  m_l_number : mg "_law_number" = some (.ref f_l_number)
  m_l_reads : mg "_law_reads" = some (.ref f_l_reads)
  m_l_signed : mg "_law_signed" = some (.ref f_l_signed)
  m_l_whole : mg "_law_whole" = some (.ref f_l_whole)
  m_l_worth : mg "_law_worth" = some (.ref f_l_worth)
  m_formulas_in : mg "formulas_in" = some (.ref f_f_formulas_in)
  m_reads_of : mg "reads_of" = some (.ref f_f_reads_of)
  m_worth : mg "worth" = some (.ref f_f_worth)
  m_worth_of_deed : mg "worth_of_deed" = some (.ref f_f_worth_of_deed)
  n_bool : mg "bool" = none
  n_int : mg "int" = none
  n_isinstance : mg "isinstance" = none
  n_len : mg "len" = none
  n_list : mg "list" = none
  n_max : mg "max" = none
  n_min : mg "min" = none
  n_range : mg "range" = none
  n_reversed : mg "reversed" = none
  n_sorted : mg "sorted" = none
  n_sum : mg "sum" = none
  n_tuple : mg "tuple" = none
section
variable {P : Program} {w : World} {K : PySem.W.Frag} {mg : Str → Option Value} {base : Heap}
abbrev gam (K : PySem.W.Frag) : Wh := ⟨K, fun _ => 0, fun _ => 0⟩
theorem b_l_measure (T : Tx K mg) : Binds K T.d_l_measure ["_law_drawn"] [] := T.F_l_measure.binds (ps := ["_law_drawn"]) fun _ _ _ _ _ _ us hl => match us, hl with | [_], _ => rfl
theorem ok_l_measure (T : Tx K mg) : FnOk P w K mg base (L2.CX P w) 1 T.f_l_measure T.d_l_measure ["_law_drawn"] (spOf (gam K) s_l_measure) :=
  fn_ok (Γ := gam K) (N := N_l_measure) (ps := ["_law_drawn"]) (k := 0) (fx := []) (body := s_l_measureB) T.F_l_measure sc_l_measure fun cdv A outer s H E hr =>
(gss_cons (gs_setF (i := 1) sc_l_measure.nd (ge_lst (ga_val ge_int (ga_val ge_int (ga_val ge_int (ga_val (ge_op2 op_pow d_pow ge_int ge_int) (ga_val (ge_op2 op_sub d_sub (ge_op2 op_pow d_pow ge_int ge_int) ge_int) (ga_val (ge_op2 op_pow d_pow ge_int ge_int) ga_nil))))))))
(gss_cons (gs_if (gt_cmp op_gt d_gt (ge_op2 op_mod d_mod (ge_var 0) ge_int) ge_int (nomark _))
(gss_one (gs_ret (ge_ix ix_seq d_ix (ge_var 1) (ge_op2 op_mod d_mod (ge_op2 o_fdiv d_div (ge_var 0) ge_int) ge_int) (fun _ _ => rfl)))) gss_nil)
(gss_cons (gs_if (gt_cmp (o_eq hr.units) d_eq (ge_op2 op_mod d_mod (ge_var 0) ge_int) ge_int (nomark _))
(gss_one (gs_ret (ge_op2 o_add d_add ge_int (ge_op2 op_mod d_mod (ge_op2 o_fdiv d_div (ge_var 0) ge_int) (ge_op2 op_sub d_sub (ge_op2 op_pow d_pow ge_int ge_int) ge_int))))) gss_nil)
(gss_one (gs_ret (ge_op2 o_add d_add ge_int (ge_op2 op_mod d_mod (ge_op2 o_mulA d_mul (ge_op2 o_add d_add (ge_op2 o_mulA d_mul (ge_var 0) (ge_var 0)) (ge_var 0)) ge_int) (ge_op2 op_sub d_sub (ge_op2 op_pow d_pow ge_int ge_int) ge_int))))))))
theorem b_l_names (T : Tx K mg) : Binds K T.d_l_names ["_law_drawn", "_law_count"] [] := T.F_l_names.binds (ps := ["_law_drawn", "_law_count"]) fun _ _ _ _ _ _ us hl => match us, hl with | [_, _], _ => rfl
theorem ok_l_names (T : Tx K mg) : FnOk P w K mg base (L2.CX P w) 1 T.f_l_names T.d_l_names ["_law_drawn", "_law_count"] (spOf (gam K) s_l_names) :=
  fn_ok (Γ := gam K) (N := N_l_names) (ps := ["_law_drawn", "_law_count"]) (k := 0) (fx := []) (body := s_l_namesB) T.F_l_names sc_l_names fun cdv A outer s H E hr =>
(gss_cons (gs_setF (i := 2) sc_l_names.nd ge_str)
(gss_cons (gs_setF (i := 3) sc_l_names.nd (ge_op2 o_mulA d_mul (ge_op2 o_add d_add (ge_op2 o_add d_add (ge_op2 o_mulA d_mul (ge_var 0) (ge_var 0)) (ge_var 0)) ge_int) ge_int))
(gss_cons (gs_setF (i := 4) sc_l_names.nd (ge_op2 o_add d_add ge_int (ge_op2 op_mod d_mod (ge_var 3) ge_int)))
(gss_cons (gs_setF (i := 5) sc_l_names.nd (ge_op2 op_mod d_mod (ge_op2 o_fdiv d_div (ge_var 3) ge_int) (ge_var 4)))
(gss_cons (gs_setLcF (i := 6) rfl sc_l_names.nd (gi_range1 (by rfl) T.n_range (ga_val (ge_var 4) ga_nil)) (blkOk_by (own := [("_law_k", 7)]) (N := N_l_names) (sc := defScope st_l_names) (by decide +kernel)) (fun _ _ _ _ _ => (gp_name 7 sc_l_names.nd)) (fun _ _ _ _ _ => gts_nil) (fun _ _ _ _ _ => (ge_ix ix_seq d_ix (ge_var 2) (ge_op2 op_mod d_mod (ge_op2 o_add d_add (ge_op2 o_fdiv d_div (ge_var 3) (ge_op2 o_add d_add (ge_var 7) ge_int)) (ge_op2 o_mulA d_mul (ge_var 7) (ge_var 7))) ge_int) (fun _ _ => rfl))) (sw_true rfl rfl rfl (by decide +kernel)))
(gss_cons (gs_setF (i := 8) sc_l_names.nd (ge_ix ix_seq d_ix (ge_lst (ga_val ge_int (ga_val ge_int (ga_val ge_int (ga_val ge_int (ga_val ge_int (ga_val ge_int ga_nil))))))) (ge_op2 op_mod d_mod (ge_op2 o_fdiv d_div (ge_var 3) ge_int) ge_int) (fun _ _ => rfl)))
(gss_cons (gs_set (i := 9) sc_l_names.nd (ge_lst ga_nil))
(gss_cons (gs_for (passes_of rfl) rfl (gi_range1 (by rfl) T.n_range (ga_val (ge_var 1) ga_nil)) (gp_name 7 sc_l_names.nd)
(gss_cons (gs_setF (i := 10) sc_l_names.nd (ge_ix ix_seq d_ix (ge_var 2) (ge_op2 op_mod d_mod (ge_op2 o_add d_add (ge_op2 o_fdiv d_div (ge_var 3) ge_int) (ge_op2 o_mulA d_mul (ge_var 7) (ge_var 8))) ge_int) (fun _ _ => rfl)))
(gss_one (gs_if (gt_cmp (o_eq hr.units) d_eq (ge_op2 op_mod d_mod (ge_op2 o_fdiv d_div (ge_var 3) ge_int) ge_int) ge_int (nomark _))
(gss_one (gs_expr (ge_meth rfl 9 md_append (pe_bm PySem.F.plainAttrs_list PySem.F.slot_list_append PySem.F.type_list_append mt_append (pv 9) (ga_val (ge_op2 o_mulA d_mul (ge_ix ix_seq d_ix (ge_var 6) ge_int (fun _ _ => rfl)) (ge_op2 o_add d_add (ge_op2 op_mod d_mod (ge_op2 o_add d_add (ge_var 7) (ge_op2 o_fdiv d_div (ge_var 3) ge_int)) ge_int) ge_int)) ga_nil))))) (gss_one (gs_expr (ge_meth rfl 9 md_append (pe_bm PySem.F.plainAttrs_list PySem.F.slot_list_append PySem.F.type_list_append mt_append (pv 9) (ga_val (ge_op2 o_add d_add (ge_op2 o_add d_add (ge_str1 PySem.F.slot_str_join PySem.F.type_str_join (m_join rfl) s_join ge_str (ge_slice rfl (ge_var 6) go_none (go_some (ge_var 5)))) (ge_var 10)) (ge_str1 PySem.F.slot_str_join PySem.F.type_str_join (m_join rfl) s_join ge_str (ge_slice rfl (ge_var 6) (go_some (ge_op2 o_add d_add (ge_var 5) ge_int)) go_none))) ga_nil)))))))))
(gss_one (gs_ret (ge_mv 9)))))))))))
theorem b_l_drawn_at (T : Tx K mg) : Binds K T.d_l_drawn_at ["_law_script", "_law_k"] [] := T.F_l_drawn_at.binds (ps := ["_law_script", "_law_k"]) fun _ _ _ _ _ _ us hl => match us, hl with | [_, _], _ => rfl
theorem ok_l_drawn_at (T : Tx K mg) : FnOk P w K mg base (L2.CX P w) 1 T.f_l_drawn_at T.d_l_drawn_at ["_law_script", "_law_k"] (spOf (gam K) s_l_drawn_at) :=
  fn_ok (Γ := gam K) (N := N_l_drawn_at) (ps := ["_law_script", "_law_k"]) (k := 0) (fx := []) (body := s_l_drawn_atB) T.F_l_drawn_at sc_l_drawn_at fun cdv A outer s H E hr =>
(gss_cons (gs_if (gt_cmp op_lt d_lt (ge_var 1) (ge_callB c_len k_len (by rfl) T.n_len (by decide +kernel) (ga_val (ge_var 0) ga_nil)) (nomark _))
(gss_one (gs_ret (ge_ix ix_seq d_ix (ge_var 0) (ge_var 1) (fun _ _ => rfl)))) gss_nil)
(gss_one (gs_ret ge_int)))
theorem b_l_number (T : Tx K mg) : Binds K T.d_l_number ["_law_drawn"] [] := T.F_l_number.binds (ps := ["_law_drawn"]) fun _ _ _ _ _ _ us hl => match us, hl with | [_], _ => rfl
theorem ok_l_number (T : Tx K mg) : FnOk P w K mg base (L2.CX P w) 1 T.f_l_number T.d_l_number ["_law_drawn"] (spOf (gam K) s_l_number) :=
  fn_ok (Γ := gam K) (N := N_l_number) (ps := ["_law_drawn"]) (k := 0) (fx := []) (body := s_l_numberB) T.F_l_number sc_l_number fun cdv A outer s H E hr =>
(gss_cons (gs_if (gt_cmp (o_eq hr.units) d_eq (ge_op2 op_mod d_mod (ge_var 0) ge_int) ge_int (nomark _))
(gss_one (gs_ret (ge_op2 op_mod d_mod (ge_op2 o_fdiv d_div (ge_var 0) ge_int) ge_int))) gss_nil)
(gss_cons (gs_if (gt_cmp (o_eq hr.units) d_eq (ge_op2 op_mod d_mod (ge_var 0) ge_int) ge_int (nomark _))
(gss_one (gs_ret (ge_op2 op_mod d_mod (ge_op2 o_fdiv d_div (ge_var 0) ge_int) (ge_op2 op_pow d_pow ge_int ge_int)))) gss_nil)
(gss_cons (gs_setF (i := 1) sc_l_number.nd (ge_op2 op_mod d_mod (ge_op2 o_mulA d_mul (ge_op2 o_add d_add (ge_op2 o_add d_add (ge_op2 o_mulA d_mul (ge_var 0) (ge_var 0)) (ge_var 0)) ge_int) ge_int) (ge_op2 o_add d_add (ge_op2 op_pow d_pow ge_int ge_int) ge_int)))
(gss_one (gs_ret (ge_op2 op_mod d_mod (ge_op2 o_mulA d_mul (ge_op2 o_mulA d_mul (ge_op2 o_mulA d_mul (ge_var 1) (ge_var 1)) (ge_var 1)) ge_int) (ge_op2 op_pow d_pow ge_int ge_int)))))))
theorem b_l_leaf (T : Tx K mg) : Binds K T.d_l_leaf ["_law_names_here", "_law_digit", "_law_purse"] [] := T.F_l_leaf.binds (ps := ["_law_names_here", "_law_digit", "_law_purse"]) fun _ _ _ _ _ _ us hl => match us, hl with | [_, _, _], _ => rfl
theorem ok_l_leaf (T : Tx K mg) : FnOk P w K mg base (L2.CX P w) 2 T.f_l_leaf T.d_l_leaf ["_law_names_here", "_law_digit", "_law_purse"] (spOf (gam K) s_l_leaf) :=
  fn_ok (Γ := gam K) (N := N_l_leaf) (ps := ["_law_names_here", "_law_digit", "_law_purse"]) (k := 1) (fx := [2]) (body := s_l_leafB) T.F_l_leaf sc_l_leaf fun cdv A outer s H E hr =>
(gss_cons (gs_setF (i := 3) sc_l_leaf.nd (ge_op2 op_mod d_mod (ge_var 1) ge_int))
(gss_cons (gs_if (gt_view (PW.pt (gw_and (gt_cmp (o_eq hr.units) d_eq (ge_var 3) ge_int (nomark _)) (gw_and (gt_cmp (o_eq hr.units) d_eq (ge_op2 op_mod d_mod (ge_op2 o_fdiv d_div (ge_var 1) ge_int) ge_int) ge_int (nomark _)) (pw_and1 (gt_cmp op_gt d_gt (ge_callB c_len k_len (by rfl) T.n_len (by decide +kernel) (ga_val (ge_var 2) ga_nil)) ge_int (nomark _)))))))
(gss_cons (gs_setF (i := 4) sc_l_leaf.nd ge_int)
(gss_cons (gs_for (passes_of rfl) rfl (gi_range1 (by rfl) T.n_range (ga_val ge_int ga_nil)) (gp_name 5 sc_l_leaf.nd)
(gss_one (gs_setF (i := 4) sc_l_leaf.nd (ge_op2 o_add d_add (ge_op2 o_mulA d_mul (ge_var 4) ge_int) (ge_meth0 rfl 2 md_pop (pe_bm0 PySem.F.plainAttrs_list PySem.F.slot_list_pop PySem.F.type_list_pop mt_pop (pv 2)))))))
(gss_one (gs_ret (ge_tup (ga_val ge_str (ga_val (ge_op2 op_mod d_mod (ge_var 4) (ge_op2 op_pow d_pow ge_int ge_int)) ga_nil))))))) gss_nil)
(gss_cons (gs_if (gt_cmp (o_eq hr.units) d_eq (ge_var 3) ge_int (nomark _))
(gss_one (gs_ret (ge_tup (ga_val ge_str (ga_val (ge_call (ok_l_number T) (hr.mono (j := 1) (by omega)) T.m_l_number T.F_l_number.kp (b_l_number T) (takes_of rfl rfl rfl rfl) (ga_val (ge_op2 o_fdiv d_div (ge_var 1) ge_int) ga_nil)) ga_nil))))) gss_nil)
(gss_cons (gs_if (gt_cmp op_lt d_lt (ge_var 3) ge_int (nomark _))
(gss_one (gs_ret (ge_ix ix_seq d_ix (ge_lst (ga_val (ge_tup (ga_val ge_str ga_nil)) (ga_val (ge_tup (ga_val ge_str ga_nil)) ga_nil))) (ge_op2 op_sub d_sub (ge_var 3) ge_int) (fun _ _ => rfl)))) gss_nil)
(gss_cons (gs_setF (i := 6) sc_l_leaf.nd (ge_ix ix_seq d_ix (ge_var 0) (ge_op2 op_sub d_sub (ge_un un_neg d_neg ge_int) (ge_op2 op_mod d_mod (ge_op2 o_fdiv d_div (ge_var 1) ge_int) (ge_callB c_len k_len (by rfl) T.n_len (by decide +kernel) (ga_val (ge_var 0) ga_nil)))) (fun _ _ => rfl)))
(gss_cons (gs_if (gt_cmp op_lt d_lt (ge_var 3) ge_int (nomark _))
(gss_one (gs_setF (i := 6) sc_l_leaf.nd (ge_ix ix_seq d_ix (ge_var 0) (ge_op2 op_sub d_sub (ge_un un_neg d_neg ge_int) (ge_op2 op_mod d_mod (ge_op2 o_fdiv d_div (ge_var 1) ge_int) (ge_callB (call_min2 rfl) k_min2 (by rfl) T.n_min (by decide +kernel) (ga_val ge_int (ga_val (ge_callB c_len k_len (by rfl) T.n_len (by decide +kernel) (ga_val (ge_var 0) ga_nil)) ga_nil))))) (fun _ _ => rfl)))) gss_nil)
(gss_one (gs_ret (ge_tup (ga_val ge_str (ga_val (ge_var 6) (ga_val (ge_op2 op_sub d_sub (ge_op2 op_mod d_mod (ge_op2 o_fdiv d_div (ge_var 1) ge_int) ge_int) ge_int) (ga_val (ge_op2 op_sub d_sub (ge_op2 op_mod d_mod (ge_op2 o_fdiv d_div (ge_var 1) ge_int) ge_int) ge_int) ga_nil)))))))))))))
theorem b_l_formula (T : Tx K mg) : Binds K T.d_l_formula ["_law_names_here", "_law_purse", "_law_down"] [] := T.F_l_formula.binds (ps := ["_law_names_here", "_law_purse", "_law_down"]) fun _ _ _ _ _ _ us hl => match us, hl with | [_, _, _], _ => rfl
theorem ok_l_formula (T : Tx K mg) : ∀ n : Nat, FnOk P w K mg base (L2.CX P w) (3 + n) T.f_l_formula T.d_l_formula ["_law_names_here", "_law_purse", "_law_down"] (spOf (gam K) (s_l_formula n))
  | 0 => fn_no
  | n + 1 => fn_ok (Γ := gam K) (N := N_l_formula) (ps := ["_law_names_here", "_law_purse", "_law_down"]) (k := 3 + n) (fx := [1]) (body := s_l_formulaB (s_l_formula n)) T.F_l_formula sc_l_formula fun cdv A outer s H E hr =>
(gss_cons (gs_setF (i := 3) sc_l_formula.nd (ge_meth0 rfl 1 md_pop (pe_bm0 PySem.F.plainAttrs_list PySem.F.slot_list_pop PySem.F.type_list_pop mt_pop (pv 1))))
(gss_cons (gs_if (PW.pt (gw_or (gt_cmp (o_eq hr.units) d_eq (ge_var 2) ge_int (nomark _)) (pw_or1 (gt_cmp op_lt d_lt (ge_op2 op_mod d_mod (ge_var 3) ge_int) ge_int (nomark _)))))
(gss_one (gs_ret (ge_call (ok_l_leaf T) (hr.mono (j := 2) (by omega)) T.m_l_leaf T.F_l_leaf.kp (b_l_leaf T) (takes_of rfl rfl rfl rfl) (ga_val (ge_var 0) (ga_val (ge_op2 o_fdiv d_div (ge_var 3) ge_int) (ga_lend 1 ga_nil)))))) gss_nil)
(gss_cons (gs_setF (i := 4) sc_l_formula.nd (ge_ix ix_seq d_ix (ge_lst (ga_val ge_str (ga_val ge_str (ga_val ge_str (ga_val ge_str (ga_val ge_str (ga_val ge_str ga_nil))))))) (ge_op2 op_mod d_mod (ge_op2 o_fdiv d_div (ge_var 3) ge_int) ge_int) (fun _ _ => rfl)))
(gss_cons (gs_set (i := 5) sc_l_formula.nd (ge_lst ga_nil))
(gss_cons (gs_for (passes_of rfl) rfl (gi_range1 (by rfl) T.n_range (ga_val (ge_op2 o_add d_add ge_int (ge_callTy call_int1 k_int (by rfl) T.n_int (by decide +kernel) (ga_val (ge_cmp (o_eq hr.units) d_eq (ge_var 4) ge_str (nomark _)) ga_nil))) ga_nil)) (gp_name 6 sc_l_formula.nd)
(gss_one (gs_expr (ge_meth rfl 5 md_append (pe_bm PySem.F.plainAttrs_list PySem.F.slot_list_append PySem.F.type_list_append mt_append (pv 5) (ga_val (ge_call (ok_l_formula T n) (hr.mono (j := 3 + n) (by omega)) T.m_l_formula T.F_l_formula.kp (b_l_formula T) (takes_of rfl rfl rfl rfl) (ga_val (ge_var 0) (ga_lend 1 (ga_val (ge_op2 op_sub d_sub (ge_var 2) ge_int) ga_nil)))) ga_nil))))))
(gss_one (gs_ret (ge_op2 o_add d_add (ge_tup (ga_val (ge_var 4) ga_nil)) (ge_callTy call_tuple_of k_tuple (by rfl) T.n_tuple (by decide +kernel) (ga_val (ge_var 5) ga_nil))))))))))
theorem b_l_grown (T : Tx K mg) : Binds K T.d_l_grown ["_law_names_here", "_law_purse"] [] := T.F_l_grown.binds (ps := ["_law_names_here", "_law_purse"]) fun _ _ _ _ _ _ us hl => match us, hl with | [_, _], _ => rfl
theorem ok_l_grown (T : Tx K mg) : FnOk P w K mg base (L2.CX P w) 16 T.f_l_grown T.d_l_grown ["_law_names_here", "_law_purse"] (spOf (gam K) s_l_grown) :=
  fn_ok (Γ := gam K) (N := N_l_grown) (ps := ["_law_names_here", "_law_purse"]) (k := 15) (fx := [1]) (body := s_l_grownB) T.F_l_grown sc_l_grown fun cdv A outer s H E hr =>
(gss_cons (gs_setF (i := 2) sc_l_grown.nd (ge_call (ok_l_formula T 12) (hr.mono (j := 15) (by omega)) T.m_l_formula T.F_l_formula.kp (b_l_formula T) (takes_of rfl rfl rfl rfl) (ga_val (ge_var 0) (ga_lend 1 (ga_val ge_int ga_nil)))))
(gss_cons (gs_for (passes_of rfl) rfl (gi_range1 (by rfl) T.n_range (ga_val (ge_op2 op_mod d_mod (ge_meth0 rfl 1 md_pop (pe_bm0 PySem.F.plainAttrs_list PySem.F.slot_list_pop PySem.F.type_list_pop mt_pop (pv 1))) ge_int) ga_nil)) (gp_name 3 sc_l_grown.nd)
(gss_cons (gs_setF (i := 4) sc_l_grown.nd (ge_meth0 rfl 1 md_pop (pe_bm0 PySem.F.plainAttrs_list PySem.F.slot_list_pop PySem.F.type_list_pop mt_pop (pv 1))))
(gss_cons (gs_setF (i := 5) sc_l_grown.nd (ge_call (ok_l_leaf T) (hr.mono (j := 2) (by omega)) T.m_l_leaf T.F_l_leaf.kp (b_l_leaf T) (takes_of rfl rfl rfl rfl) (ga_val (ge_var 0) (ga_val (ge_op2 o_fdiv d_div (ge_var 4) ge_int) (ga_lend 1 ga_nil)))))
(gss_cons (gs_setF (i := 6) sc_l_grown.nd (ge_ix ix_seq d_ix (ge_lst (ga_val ge_str (ga_val ge_str (ga_val ge_str (ga_val ge_str (ga_val ge_str ga_nil)))))) (ge_op2 op_mod d_mod (ge_var 4) ge_int) (fun _ _ => rfl)))
(gss_one (gs_setF (i := 2) sc_l_grown.nd (ge_ix ix_seq d_ix (ge_lst (ga_val (ge_tup (ga_val (ge_var 6) (ga_val (ge_var 5) (ga_val (ge_var 2) ga_nil)))) (ga_val (ge_tup (ga_val (ge_var 6) (ga_val (ge_var 2) (ga_val (ge_var 5) ga_nil)))) ga_nil))) (ge_op2 op_mod d_mod (ge_op2 o_fdiv d_div (ge_var 4) ge_int) ge_int) (fun _ _ => rfl))))))))
(gss_one (gs_ret (ge_var 2)))))
theorem b_l_signed (T : Tx K mg) : Binds K T.d_l_signed ["_law_drawn"] [] := T.F_l_signed.binds (ps := ["_law_drawn"]) fun _ _ _ _ _ _ us hl => match us, hl with | [_], _ => rfl
theorem ok_l_signed (T : Tx K mg) : FnOk P w K mg base (L2.CX P w) 1 T.f_l_signed T.d_l_signed ["_law_drawn"] (spOf (gam K) s_l_signed) :=
  fn_ok (Γ := gam K) (N := N_l_signed) (ps := ["_law_drawn"]) (k := 0) (fx := []) (body := s_l_signedB) T.F_l_signed sc_l_signed fun cdv A outer s H E hr =>
(gss_cons (gs_if (gt_cmp (o_eq hr.units) d_eq (ge_op2 op_mod d_mod (ge_var 0) ge_int) ge_int (nomark _))
(gss_one (gs_ret (ge_op2 op_sub d_sub (ge_op2 op_mod d_mod (ge_op2 o_fdiv d_div (ge_var 0) ge_int) ge_int) ge_int))) gss_nil)
(gss_cons (gs_if (gt_cmp (o_eq hr.units) d_eq (ge_op2 op_mod d_mod (ge_var 0) ge_int) ge_int (nomark _))
(gss_one (gs_ret (ge_op2 op_sub d_sub (ge_op2 op_mod d_mod (ge_op2 o_fdiv d_div (ge_var 0) ge_int) (ge_op2 op_sub d_sub (ge_op2 o_mulA d_mul ge_int (ge_op2 op_pow d_pow ge_int ge_int)) ge_int)) (ge_op2 op_sub d_sub (ge_op2 op_pow d_pow ge_int ge_int) ge_int)))) gss_nil)
(gss_cons (gs_setF (i := 1) sc_l_signed.nd (ge_op2 op_mod d_mod (ge_op2 o_mulA d_mul (ge_op2 o_add d_add (ge_op2 o_add d_add (ge_op2 o_mulA d_mul (ge_var 0) (ge_var 0)) (ge_var 0)) ge_int) ge_int) (ge_op2 o_add d_add (ge_op2 op_pow d_pow ge_int ge_int) ge_int)))
(gss_one (gs_ret (ge_op2 op_sub d_sub (ge_op2 op_mod d_mod (ge_op2 o_mulA d_mul (ge_op2 o_mulA d_mul (ge_op2 o_mulA d_mul (ge_var 1) (ge_var 1)) (ge_var 1)) ge_int) (ge_op2 op_sub d_sub (ge_op2 o_mulA d_mul ge_int (ge_op2 op_pow d_pow ge_int ge_int)) ge_int)) (ge_op2 op_sub d_sub (ge_op2 op_pow d_pow ge_int ge_int) ge_int)))))))
theorem b_f_worth_of_deed (T : Tx K mg) : Binds K T.d_f_worth_of_deed ["word", "measure", "rests"] [] := T.F_f_worth_of_deed.binds (ps := ["word", "measure", "rests"]) fun _ _ _ _ _ _ us hl => match us, hl with | [_, _, _], _ => rfl
theorem ok_f_worth_of_deed (T : Tx K mg) : FnOk P w K mg base (L2.CX P w) 1 T.f_f_worth_of_deed T.d_f_worth_of_deed ["word", "measure", "rests"] (spOf (gam K) s_f_worth_of_deed) :=
  fn_ok (Γ := gam K) (N := N_f_worth_of_deed) (ps := ["word", "measure", "rests"]) (k := 0) (fx := []) (body := s_f_worth_of_deedB) T.F_f_worth_of_deed sc_f_worth_of_deed fun cdv A outer s H E hr =>
(gss_cons (gs_if (gt_cmp (o_eq hr.units) d_eq (ge_var 0) ge_str (nomark _))
(gss_one (gs_ret (ge_op2 op_mod d_mod (ge_op2 o_add d_add (ge_ix ix_seq d_ix (ge_var 2) ge_int (fun _ _ => rfl)) (ge_ix ix_seq d_ix (ge_var 2) ge_int (fun _ _ => rfl))) (ge_var 1)))) gss_nil)
(gss_cons (gs_if (gt_cmp (o_eq hr.units) d_eq (ge_var 0) ge_str (nomark _))
(gss_one (gs_ret (ge_op2 op_mod d_mod (ge_op2 op_sub d_sub (ge_ix ix_seq d_ix (ge_var 2) ge_int (fun _ _ => rfl)) (ge_ix ix_seq d_ix (ge_var 2) ge_int (fun _ _ => rfl))) (ge_var 1)))) gss_nil)
(gss_cons (gs_if (gt_cmp (o_eq hr.units) d_eq (ge_var 0) ge_str (nomark _))
(gss_one (gs_ret (ge_op2 op_mod d_mod (ge_op2 o_mulA d_mul (ge_ix ix_seq d_ix (ge_var 2) ge_int (fun _ _ => rfl)) (ge_ix ix_seq d_ix (ge_var 2) ge_int (fun _ _ => rfl))) (ge_var 1)))) gss_nil)
(gss_cons (gs_if (gt_cmp (o_eq hr.units) d_eq (ge_var 0) ge_str (nomark _))
(gss_one (gs_ret (ge_callB (cr_min rfl) k_minL (by rfl) T.n_min (by decide +kernel) (ga_val (ge_var 2) ga_nil)))) gss_nil)
(gss_cons (gs_if (gt_cmp (o_eq hr.units) d_eq (ge_var 0) ge_str (nomark _))
(gss_one (gs_ret (ge_callB (cr_max rfl) k_maxL (by rfl) T.n_max (by decide +kernel) (ga_val (ge_var 2) ga_nil)))) gss_nil)
(gss_cons (gs_if (gt_cmp (o_eq hr.units) d_eq (ge_ix ix_seq d_ix (ge_var 2) ge_int (fun _ _ => rfl)) ge_int (nomark _))
(gss_one (gs_ret (ge_ix ix_seq d_ix (ge_var 2) ge_int (fun _ _ => rfl)))) gss_nil)
(gss_one (gs_ret (ge_ix ix_seq d_ix (ge_var 2) ge_int (fun _ _ => rfl))))))))))
theorem b_f_formulas_in (T : Tx K mg) : Binds K T.d_f_formulas_in ["formula"] [] := T.F_f_formulas_in.binds (ps := ["formula"]) fun _ _ _ _ _ _ us hl => match us, hl with | [_], _ => rfl
theorem ok_f_formulas_in (T : Tx K mg) : FnOk P w K mg base (L2.CX P w) 1 T.f_f_formulas_in T.d_f_formulas_in ["formula"] (spOf (gam K) s_f_formulas_in) :=
  fn_ok (Γ := gam K) (N := N_f_formulas_in) (ps := ["formula"]) (k := 0) (fx := []) (body := s_f_formulas_inB) T.F_f_formulas_in sc_f_formulas_in fun cdv A outer s H E hr =>
(gss_cons (gs_if (gt_cmp (o_in (hu65 hr)) d_in (ge_ix ix_seq d_ix (ge_var 0) ge_int (fun _ _ => rfl)) (ge_tup (ga_val ge_str (ga_val ge_str (ga_val ge_str (ga_val ge_str ga_nil))))) (by rfl))
(gss_one (gs_ret (ge_lst ga_nil))) gss_nil)
(gss_one (gs_ret (ge_callTy call_list_of k_list (by rfl) T.n_list (by decide +kernel) (ga_val (ge_slice rfl (ge_var 0) (go_some ge_int) go_none) ga_nil)))))
theorem b_f_reads_of (T : Tx K mg) : Binds K T.d_f_reads_of ["formula"] [] := T.F_f_reads_of.binds (ps := ["formula"]) fun _ _ _ _ _ _ us hl => match us, hl with | [_], _ => rfl
theorem ok_f_reads_of (T : Tx K mg) : ∀ n : Nat, FnOk P w K mg base (L2.CX P w) (2 + n) T.f_f_reads_of T.d_f_reads_of ["formula"] (spOf (gam K) (s_f_reads_of n))
  | 0 => fn_no
  | n + 1 => fn_ok (Γ := gam K) (N := N_f_reads_of) (ps := ["formula"]) (k := 2 + n) (fx := []) (body := s_f_reads_ofB (s_f_reads_of n)) T.F_f_reads_of sc_f_reads_of fun cdv A outer s H E hr =>
(gss_cons (gs_if (gt_cmp (o_eq hr.units) d_eq (ge_ix ix_seq d_ix (ge_var 0) ge_int (fun _ _ => rfl)) ge_str (nomark _))
(gss_one (gs_ret (ge_lst (ga_val (ge_tup (ga_val (ge_ix ix_seq d_ix (ge_var 0) ge_int (fun _ _ => rfl)) (ga_val (ge_ix ix_seq d_ix (ge_var 0) ge_int (fun _ _ => rfl)) (ga_val (ge_ix ix_seq d_ix (ge_var 0) ge_int (fun _ _ => rfl)) ga_nil)))) ga_nil)))) gss_nil)
(gss_cons (gs_set (i := 1) sc_f_reads_of.nd (ge_lst ga_nil))
(gss_cons (gs_for (passes_of rfl) rfl (gi_list rfl (ge_call (ok_f_formulas_in T) (hr.mono (j := 1) (by omega)) T.m_formulas_in T.F_f_formulas_in.kp (b_f_formulas_in T) (takes_of rfl rfl rfl rfl) (ga_val (ge_var 0) ga_nil))) (gp_name 2 sc_f_reads_of.nd)
(gss_one (gs_expr (ge_meth rfl 1 md_extend (pe_bm PySem.F.plainAttrs_list PySem.F.slot_list_extend PySem.F.type_list_extend mt_extend (pv 1) (ga_val (ge_call (ok_f_reads_of T n) (hr.mono (j := 2 + n) (by omega)) T.m_reads_of T.F_f_reads_of.kp (b_f_reads_of T) (takes_of rfl rfl rfl rfl) (ga_val (ge_var 2) ga_nil)) ga_nil))))))
(gss_one (gs_ret (ge_mv 1))))))
theorem b_f_worth (T : Tx K mg) : Binds K T.d_f_worth ["formula", "measure", "x", "y", "numbers"] [] := T.F_f_worth.binds (ps := ["formula", "measure", "x", "y", "numbers"]) fun _ _ _ _ _ _ us hl => match us, hl with | [_, _, _, _, _], _ => rfl
theorem ok_f_worth (T : Tx K mg) : ∀ n : Nat, FnOk P w K mg base (L2.CX P w) (15 + n) T.f_f_worth T.d_f_worth ["formula", "measure", "x", "y", "numbers"] (spOf (gam K) (s_f_worth n))
  | 0 => fn_no
  | n + 1 => fn_ok (Γ := gam K) (N := N_f_worth) (ps := ["formula", "measure", "x", "y", "numbers"]) (k := 15 + n) (fx := []) (body := s_f_worthB (s_f_worth n)) T.F_f_worth sc_f_worth fun cdv A outer s H E hr =>
(gss_cons (gs_if (gt_cmp (o_eq hr.units) d_eq (ge_ix ix_seq d_ix (ge_var 0) ge_int (fun _ _ => rfl)) ge_str (nomark _))
(gss_one (gs_ret (ge_op2 op_mod d_mod (ge_ix ix_seq d_ix (ge_var 0) ge_int (fun _ _ => rfl)) (ge_var 1)))) gss_nil)
(gss_cons (gs_if (gt_cmp (o_eq hr.units) d_eq (ge_ix ix_seq d_ix (ge_var 0) ge_int (fun _ _ => rfl)) ge_str (nomark _))
(gss_one (gs_ret (ge_op2 op_mod d_mod (ge_var 2) (ge_var 1)))) gss_nil)
(gss_cons (gs_if (gt_cmp (o_eq hr.units) d_eq (ge_ix ix_seq d_ix (ge_var 0) ge_int (fun _ _ => rfl)) ge_str (nomark _))
(gss_one (gs_ret (ge_op2 op_mod d_mod (ge_var 3) (ge_var 1)))) gss_nil)
(gss_cons (gs_if (gt_cmp (o_eq hr.units) d_eq (ge_ix ix_seq d_ix (ge_var 0) ge_int (fun _ _ => rfl)) ge_str (nomark _))
(gss_one (gs_ret (ge_op2 op_mod d_mod (ge_ix ix_seq d_ix (ge_var 4) ge_int (fun _ _ => rfl)) (ge_var 1)))) gss_nil)
(gss_cons (gs_set (i := 5) sc_f_worth.nd (ge_lst ga_nil))
(gss_cons (gs_setF (i := 6) sc_f_worth.nd ge_int)
(gss_cons (gs_for (passes_of rfl) rfl (gi_tup rfl (ge_slice rfl (ge_var 0) (go_some ge_int) go_none)) (gp_name 7 sc_f_worth.nd)
(gss_cons (gs_setF (i := 8) sc_f_worth.nd (ge_callB c_len k_len (by rfl) T.n_len (by decide +kernel) (ga_val (ge_call (ok_f_reads_of T 12) (hr.mono (j := 14) (by omega)) T.m_reads_of T.F_f_reads_of.kp (b_f_reads_of T) (takes_of rfl rfl rfl rfl) (ga_val (ge_var 7) ga_nil)) ga_nil)))
(gss_cons (gs_expr (ge_meth rfl 5 md_append (pe_bm PySem.F.plainAttrs_list PySem.F.slot_list_append PySem.F.type_list_append mt_append (pv 5) (ga_val (ge_call (ok_f_worth T n) (hr.mono (j := 15 + n) (by omega)) T.m_worth T.F_f_worth.kp (b_f_worth T) (takes_of rfl rfl rfl rfl) (ga_val (ge_var 7) (ga_val (ge_var 1) (ga_val (ge_var 2) (ga_val (ge_var 3) (ga_val (ge_slice rfl (ge_var 4) (go_some (ge_var 6)) (go_some (ge_op2 o_add d_add (ge_var 6) (ge_var 8)))) ga_nil)))))) ga_nil))))
(gss_one (gs_aug sc_f_worth.nd ip_add i_add (ge_var 8))))))
(gss_one (gs_ret (ge_call (ok_f_worth_of_deed T) (hr.mono (j := 1) (by omega)) T.m_worth_of_deed T.F_f_worth_of_deed.kp (b_f_worth_of_deed T) (takes_of rfl rfl rfl rfl) (ga_val (ge_ix ix_seq d_ix (ge_var 0) ge_int (fun _ _ => rfl)) (ga_val (ge_var 1) (ga_val (ge_var 5) ga_nil)))))))))))))
theorem b_l_digits (T : Tx K mg) : Binds K T.d_l_digits ["_law_script", "_law_at", "_law_parts"] [] := T.F_l_digits.binds (ps := ["_law_script", "_law_at", "_law_parts"]) fun _ _ _ _ _ _ us hl => match us, hl with | [_, _, _], _ => rfl
theorem ok_l_digits (T : Tx K mg) : FnOk P w K mg base (L2.CX P w) 1 T.f_l_digits T.d_l_digits ["_law_script", "_law_at", "_law_parts"] (spOf (gam K) s_l_digits2) :=
  fn_ok (Γ := gam K) (N := N_l_digits) (ps := ["_law_script", "_law_at", "_law_parts"]) (k := 0) (fx := []) (body := s_l_digits2B) T.F_l_digits sc_l_digits fun cdv A outer s H E hr =>
(gss_cons (gs_setF (i := 3) sc_l_digits.nd (ge_callB (cr_sum rfl) k_sum (by rfl) T.n_sum (by decide +kernel) (ga_val (ge_lc rfl sc_l_digits.nd (gi_range3 (by rfl) T.n_range (ga_val (ge_var 1) (ga_val (ge_callB (call_min2 rfl) k_min2 (by rfl) T.n_min (by decide +kernel) (ga_val (ge_callB c_len k_len (by rfl) T.n_len (by decide +kernel) (ga_val (ge_var 0) ga_nil)) (ga_val ge_int ga_nil))) (ga_val (ge_var 2) ga_nil)))) (blkOk_by (own := [("_law_k", 4)]) (N := N_l_digits) (sc := defScope st_l_digits) (by decide +kernel)) (fun _ _ _ _ _ => (gp_name 4 sc_l_digits.nd)) (fun _ _ _ _ _ => gts_nil) (fun _ _ _ _ _ => (ge_ix ix_seq d_ix (ge_var 0) (ge_var 4) (fun _ _ => rfl)))) ga_nil)))
(gss_cons (gs_set (i := 5) sc_l_digits.nd (ge_lst ga_nil))
(gss_cons (gs_setF (i := 6) sc_l_digits.nd (ge_op2 op_mod d_mod (ge_var 3) ge_int))
(gss_cons (gs_setF (i := 7) sc_l_digits.nd (ge_op2 o_fdiv d_div (ge_var 3) ge_int))
(gss_cons (gs_for (passes_of rfl) rfl (gi_range1 (by rfl) T.n_range (ga_val ge_int ga_nil)) (gp_name 4 sc_l_digits.nd)
(gss_cons (gs_setF (i := 6) sc_l_digits.nd (ge_op2 op_mod d_mod (ge_op2 o_add d_add (ge_op2 o_add d_add (ge_op2 o_mulA d_mul (ge_var 6) (ge_var 6)) (ge_var 3)) (ge_var 4)) ge_int))
(gss_cons (gs_expr (ge_meth rfl 5 md_append (pe_bm PySem.F.plainAttrs_list PySem.F.slot_list_append PySem.F.type_list_append mt_append (pv 5) (ga_val (ge_op2 op_mod d_mod (ge_ix ix_seq d_ix (ge_lst (ga_val (ge_var 7) (ga_val (ge_op2 op_mod d_mod (ge_op2 o_mulA d_mul (ge_var 6) (ge_var 6)) ge_int) ga_nil))) (ge_op2 op_mod d_mod (ge_var 3) ge_int) (fun _ _ => rfl)) ge_int) ga_nil))))
(gss_one (gs_setF (i := 7) sc_l_digits.nd (ge_op2 o_fdiv d_div (ge_var 7) ge_int))))))
(gss_one (gs_ret (ge_listRev rfl rfl (by rfl) T.n_list (by rfl) T.n_reversed (ge_var 5)))))))))
theorem b_l_worth (T : Tx K mg) : Binds K T.d_l_worth ["_law_formula_here", "_law_measure_here", "_law_x", "_law_y", "_law_numbers"] [] := T.F_l_worth.binds (ps := ["_law_formula_here", "_law_measure_here", "_law_x", "_law_y", "_law_numbers"]) fun _ _ _ _ _ _ us hl => match us, hl with | [_, _, _, _, _], _ => rfl
theorem ok_l_worth (T : Tx K mg) : ∀ n : Nat, FnOk P w K mg base (L2.CX P w) (1 + n) T.f_l_worth T.d_l_worth ["_law_formula_here", "_law_measure_here", "_law_x", "_law_y", "_law_numbers"] (spOf (gam K) (s_l_worth n))
  | 0 => fn_no
  | n + 1 => fn_ok (Γ := gam K) (N := N_l_worth) (ps := ["_law_formula_here", "_law_measure_here", "_law_x", "_law_y", "_law_numbers"]) (k := 1 + n) (fx := [4]) (body := s_l_worthB (s_l_worth n)) T.F_l_worth sc_l_worth fun cdv A outer s H E hr =>
(gss_cons (gs_if (gt_cmp (o_eq hr.units) d_eq (ge_ix ix_seq d_ix (ge_var 0) ge_int (fun _ _ => rfl)) ge_str (nomark _))
(gss_one (gs_ret (ge_op2 op_mod d_mod (ge_ix ix_seq d_ix (ge_var 0) ge_int (fun _ _ => rfl)) (ge_var 1)))) gss_nil)
(gss_cons (gs_if (gt_cmp (o_eq hr.units) d_eq (ge_ix ix_seq d_ix (ge_var 0) ge_int (fun _ _ => rfl)) ge_str (nomark _))
(gss_one (gs_ret (ge_op2 op_mod d_mod (ge_var 2) (ge_var 1)))) gss_nil)
(gss_cons (gs_if (gt_cmp (o_eq hr.units) d_eq (ge_ix ix_seq d_ix (ge_var 0) ge_int (fun _ _ => rfl)) ge_str (nomark _))
(gss_one (gs_ret (ge_op2 op_mod d_mod (ge_var 3) (ge_var 1)))) gss_nil)
(gss_cons (gs_if (gt_cmp (o_eq hr.units) d_eq (ge_ix ix_seq d_ix (ge_var 0) ge_int (fun _ _ => rfl)) ge_str (nomark _))
(gss_one (gs_ret (ge_op2 op_mod d_mod (ge_meth rfl 4 md_pop0 (pe_bm PySem.F.plainAttrs_list PySem.F.slot_list_pop PySem.F.type_list_pop mt_popAt (pv 4) (ga_val ge_int ga_nil))) (ge_var 1)))) gss_nil)
(gss_cons (gs_setLcF (i := 5) rfl sc_l_worth.nd (gi_tup rfl (ge_slice rfl (ge_var 0) (go_some ge_int) go_none)) (blkOk_by (own := [("_law_one", 6)]) (N := N_l_worth) (sc := defScope st_l_worth) (by decide +kernel)) (fun _ _ _ _ _ => (gp_name 6 sc_l_worth.nd)) (fun _ _ _ _ _ => gts_nil) (fun _ _ _ _ _ => (ge_call (ok_l_worth T n) (hr.mono (j := 1 + n) (by omega)) T.m_l_worth T.F_l_worth.kp (b_l_worth T) takes0 (ga_val (ge_var 6) (ga_val (ge_var 1) (ga_val (ge_var 2) (ga_val (ge_var 3) (ga_lend 4 ga_nil))))))) (sw_true rfl rfl rfl (by decide +kernel)))
(gss_cons (gs_if (gt_cmp (o_eq hr.units) d_eq (ge_ix ix_seq d_ix (ge_var 0) ge_int (fun _ _ => rfl)) ge_str (nomark _))
(gss_one (gs_ret (ge_op2 op_mod d_mod (ge_op2 o_add d_add (ge_ix ix_seq d_ix (ge_var 5) ge_int (fun _ _ => rfl)) (ge_ix ix_seq d_ix (ge_var 5) ge_int (fun _ _ => rfl))) (ge_var 1)))) gss_nil)
(gss_cons (gs_if (gt_cmp (o_eq hr.units) d_eq (ge_ix ix_seq d_ix (ge_var 0) ge_int (fun _ _ => rfl)) ge_str (nomark _))
(gss_one (gs_ret (ge_op2 op_mod d_mod (ge_op2 op_sub d_sub (ge_ix ix_seq d_ix (ge_var 5) ge_int (fun _ _ => rfl)) (ge_ix ix_seq d_ix (ge_var 5) ge_int (fun _ _ => rfl))) (ge_var 1)))) gss_nil)
(gss_cons (gs_if (gt_cmp (o_eq hr.units) d_eq (ge_ix ix_seq d_ix (ge_var 0) ge_int (fun _ _ => rfl)) ge_str (nomark _))
(gss_one (gs_ret (ge_op2 op_mod d_mod (ge_op2 o_mulA d_mul (ge_ix ix_seq d_ix (ge_var 5) ge_int (fun _ _ => rfl)) (ge_ix ix_seq d_ix (ge_var 5) ge_int (fun _ _ => rfl))) (ge_var 1)))) gss_nil)
(gss_cons (gs_if (gt_cmp (o_eq hr.units) d_eq (ge_ix ix_seq d_ix (ge_var 0) ge_int (fun _ _ => rfl)) ge_str (nomark _))
(gss_one (gs_ret (ge_ix ix_seq d_ix (ge_lst (ga_val (ge_ix ix_seq d_ix (ge_var 5) ge_int (fun _ _ => rfl)) (ga_val (ge_ix ix_seq d_ix (ge_var 5) ge_int (fun _ _ => rfl)) ga_nil))) (ge_callTy call_int1 k_int (by rfl) T.n_int (by decide +kernel) (ga_val (ge_cmp (o_eq hr.units) d_eq (ge_ix ix_seq d_ix (ge_var 5) ge_int (fun _ _ => rfl)) ge_int (nomark _)) ga_nil)) (fun _ _ => rfl)))) gss_nil)
(gss_cons (gs_setF (i := 5) sc_l_worth.nd (ge_callB cr_sortedI k_sorted (by rfl) T.n_sorted (by decide +kernel) (ga_val (ge_var 5) ga_nil)))
(gss_one (gs_ret (ge_ix ix_seq d_ix (ge_var 5) (ge_callTy call_int1 k_int (by rfl) T.n_int (by decide +kernel) (ga_val (ge_cmp (o_eq hr.units) d_eq (ge_ix ix_seq d_ix (ge_var 0) ge_int (fun _ _ => rfl)) ge_str (nomark _)) ga_nil)) (fun _ _ => rfl))))))))))))))
theorem b_l_reads (T : Tx K mg) : Binds K T.d_l_reads ["_law_formula_here"] [] := T.F_l_reads.binds (ps := ["_law_formula_here"]) fun _ _ _ _ _ _ us hl => match us, hl with | [_], _ => rfl
theorem ok_l_reads (T : Tx K mg) : FnOk P w K mg base (L2.CX P w) 1 T.f_l_reads T.d_l_reads ["_law_formula_here"] (spOf (gam K) s_l_reads) :=
  fn_ok (Γ := gam K) (N := N_l_reads) (ps := ["_law_formula_here"]) (k := 0) (fx := []) (body := s_l_readsB) T.F_l_reads sc_l_reads fun cdv A outer s H E hr =>
(gss_cons (gs_set (i := 1) sc_l_reads.nd (ge_lst ga_nil))
(gss_cons (gs_set (i := 2) sc_l_reads.nd (ge_lst (ga_val (ge_var 0) ga_nil)))
(gss_cons (gs_while 100000 (passes_of rfl) (gt_view (gt_cmp (o_ne hr.units) d_ne (ge_var 2) (ge_lst ga_nil) (nomark _)))
(gss_cons (gs_setF (i := 3) sc_l_reads.nd (ge_meth0 rfl 2 md_pop (pe_bm0 PySem.F.plainAttrs_list PySem.F.slot_list_pop PySem.F.type_list_pop mt_pop (pv 2))))
(gss_one (gs_if (gt_cmp (o_eq hr.units) d_eq (ge_ix ix_seq d_ix (ge_var 3) ge_int (fun _ _ => rfl)) ge_str (nomark _))
(gss_one (gs_expr (ge_meth rfl 1 md_append (pe_bm PySem.F.plainAttrs_list PySem.F.slot_list_append PySem.F.type_list_append mt_append (pv 1) (ga_val (ge_slice rfl (ge_var 3) (go_some ge_int) go_none) ga_nil))))) (gss_one (gs_if (gt_cmp (o_notIn (hu65 hr)) d_notIn (ge_ix ix_seq d_ix (ge_var 3) ge_int (fun _ _ => rfl)) (ge_tup (ga_val ge_str (ga_val ge_str (ga_val ge_str ga_nil)))) (by rfl))
(gss_one (gs_expr (ge_meth rfl 2 md_extend (pe_bm PySem.F.plainAttrs_list PySem.F.slot_list_extend PySem.F.type_list_extend mt_extend (pv 2) (ga_val (ge_listRev rfl rfl (by rfl) T.n_list (by rfl) T.n_reversed (ge_slice rfl (ge_var 3) (go_some ge_int) go_none)) ga_nil))))) gss_nil))))))
(gss_one (gs_ret (ge_mv 1))))))
theorem b_l_whole (T : Tx K mg) : Binds K T.d_l_whole ["_law_found"] [] := T.F_l_whole.binds (ps := ["_law_found"]) fun _ _ _ _ _ _ us hl => match us, hl with | [_], _ => rfl
theorem ok_l_whole (T : Tx K mg) : FnOk P w K mg base (L2.CX P w) 1 T.f_l_whole T.d_l_whole ["_law_found"] (spOf (gam K) s_l_whole) :=
  fn_ok (Γ := gam K) (N := N_l_whole) (ps := ["_law_found"]) (k := 0) (fx := []) (body := s_l_wholeB) T.F_l_whole sc_l_whole fun cdv A outer s H E hr =>
(gss_one (gs_ret (ge_and (ge_isi .int rfl (ge_var 0) (by rfl) T.n_isinstance (by rfl) T.n_int (by decide +kernel)) (pe_one (ge_not (ge_isi .bl rfl (ge_var 0) (by rfl) T.n_isinstance (by rfl) T.n_bool (by decide +kernel)))))))
theorem b_l_law (T : Tx K mg) : Binds K T.d_l_law ["_law_script"] [] := T.F_l_law.binds (ps := ["_law_script"]) fun _ _ _ _ _ _ us hl => match us, hl with | [_], _ => rfl
theorem ok_l_law (T : Tx K mg) : FnOk P w K mg base (L2.CX P w) 28 T.f_l_law T.d_l_law ["_law_script"] (spOf (gam K) s_l_law7) :=
  fn_ok (Γ := gam K) (N := N_l_law) (ps := ["_law_script"]) (k := 27) (fx := []) (body := s_l_law7B) T.F_l_law sc_l_law fun cdv A outer s H E hr =>
(gss_cons (gs_setF (i := 1) sc_l_law.nd (ge_call (ok_l_measure T) (hr.mono (j := 1) (by omega)) T.m_l_measure T.F_l_measure.kp (b_l_measure T) (takes_of rfl rfl rfl rfl) (ga_val (ge_call (ok_l_drawn_at T) (hr.mono (j := 1) (by omega)) T.m_l_drawn_at T.F_l_drawn_at.kp (b_l_drawn_at T) (takes_of rfl rfl rfl rfl) (ga_val (ge_var 0) (ga_val ge_int ga_nil))) ga_nil)))
(gss_cons (gs_setF (i := 2) sc_l_law.nd (ge_call (ok_l_names T) (hr.mono (j := 1) (by omega)) T.m_l_names T.F_l_names.kp (b_l_names T) (takes_of rfl rfl rfl rfl) (ga_val (ge_call (ok_l_drawn_at T) (hr.mono (j := 1) (by omega)) T.m_l_drawn_at T.F_l_drawn_at.kp (b_l_drawn_at T) (takes_of rfl rfl rfl rfl) (ga_val (ge_var 0) (ga_val ge_int ga_nil))) (ga_val ge_int ga_nil))))
(gss_cons (gs_for (passes_of rfl) rfl (gi_range1 (by rfl) T.n_range (ga_val ge_int ga_nil)) (gp_name 3 sc_l_law.nd)
(gss_cons (gs_setF (i := 4) sc_l_law.nd (ge_call (ok_l_grown T) (hr.mono (j := 16) (by omega)) T.m_l_grown T.F_l_grown.kp (b_l_grown T) (takes_of rfl rfl rfl rfl) (ga_val (ge_var 2) (ga_val (ge_call (ok_l_digits T) (hr.mono (j := 1) (by omega)) T.m_l_digits T.F_l_digits.kp (b_l_digits T) (takes_of rfl rfl rfl rfl) (ga_val (ge_var 0) (ga_val (ge_var 3) (ga_val ge_int ga_nil)))) ga_nil))))
(gss_cons (gs_setF (i := 5) sc_l_law.nd (ge_op2 op_sub d_sub (ge_op2 op_mod d_mod (ge_call (ok_l_drawn_at T) (hr.mono (j := 1) (by omega)) T.m_l_drawn_at T.F_l_drawn_at.kp (b_l_drawn_at T) (takes_of rfl rfl rfl rfl) (ga_val (ge_var 0) (ga_val (ge_op2 o_add d_add (ge_var 3) ge_int) ga_nil))) ge_int) ge_int))
(gss_cons (gs_setF (i := 6) sc_l_law.nd (ge_call (ok_l_signed T) (hr.mono (j := 1) (by omega)) T.m_l_signed T.F_l_signed.kp (b_l_signed T) (takes_of rfl rfl rfl rfl) (ga_val (ge_call (ok_l_drawn_at T) (hr.mono (j := 1) (by omega)) T.m_l_drawn_at T.F_l_drawn_at.kp (b_l_drawn_at T) (takes_of rfl rfl rfl rfl) (ga_val (ge_var 0) (ga_val (ge_op2 o_add d_add (ge_var 3) ge_int) ga_nil))) ga_nil)))
(gss_cons (gs_set (i := 7) sc_l_law.nd (ge_lst ga_nil))
(gss_cons (gs_for (passes_of rfl) rfl (gi_range1 (by rfl) T.n_range (ga_val (ge_callB c_len k_len (by rfl) T.n_len (by decide +kernel) (ga_val (ge_call (ok_l_reads T) (hr.mono (j := 1) (by omega)) T.m_l_reads T.F_l_reads.kp (b_l_reads T) (takes_of rfl rfl rfl rfl) (ga_val (ge_var 4) ga_nil)) ga_nil)) ga_nil)) (gp_name 8 sc_l_law.nd)
(gss_cons (gs_setF (i := 9) sc_l_law.nd (ge_call (ok_l_drawn_at T) (hr.mono (j := 1) (by omega)) T.m_l_drawn_at T.F_l_drawn_at.kp (b_l_drawn_at T) (takes_of rfl rfl rfl rfl) (ga_val (ge_var 0) (ga_val (ge_op2 op_mod d_mod (ge_op2 o_add d_add (ge_op2 o_mulA d_mul (ge_var 8) (ge_op2 o_add d_add (ge_var 3) ge_int)) (ge_var 3)) (ge_callB (call_max2 rfl) k_max2 (by rfl) T.n_max (by decide +kernel) (ga_val ge_int (ga_val (ge_callB c_len k_len (by rfl) T.n_len (by decide +kernel) (ga_val (ge_var 0) ga_nil)) ga_nil)))) ga_nil))))
(gss_one (gs_expr (ge_meth rfl 7 md_append (pe_bm PySem.F.plainAttrs_list PySem.F.slot_list_append PySem.F.type_list_append mt_append (pv 7) (ga_val (ge_call (ok_l_signed T) (hr.mono (j := 1) (by omega)) T.m_l_signed T.F_l_signed.kp (b_l_signed T) (takes_of rfl rfl rfl rfl) (ga_val (ge_op2 o_add d_add (ge_var 9) (ge_var 8)) ga_nil)) ga_nil)))))))
(gss_cons (gs_setF (i := 10) sc_l_law.nd (ge_callTy call_list_of k_list (by rfl) T.n_list (by decide +kernel) (ga_val (ge_var 7) ga_nil)))
(gss_cons (gs_setF (i := 11) sc_l_law.nd (ge_call (ok_f_worth T 12) (hr.mono (j := 27) (by omega)) T.m_worth T.F_f_worth.kp (b_f_worth T) (takes_of rfl rfl rfl rfl) (ga_val (ge_var 4) (ga_val (ge_var 1) (ga_val (ge_var 5) (ga_val (ge_var 6) (ga_val (ge_var 10) ga_nil)))))))
(gss_cons (gs_if (gt_view (PW.pt (gw_or (gt_not (gt_val (ge_call (ok_l_whole T) (hr.mono (j := 1) (by omega)) T.m_l_whole T.F_l_whole.kp (b_l_whole T) (takes_of rfl rfl rfl rfl) (ga_val (ge_var 11) ga_nil)))) (pw_or1 (gt_cmp (o_ne hr.units) d_ne (ge_var 10) (ge_var 7) (nomark _))))))
(gss_one (gs_ret ge_bl)) gss_nil)
(gss_one (gs_if (gt_view (gt_cmp (o_ne hr.units) d_ne (ge_var 11) (ge_call (ok_l_worth T 12) (hr.mono (j := 13) (by omega)) T.m_l_worth T.F_l_worth.kp (b_l_worth T) (takes_of rfl rfl rfl rfl) (ga_val (ge_var 4) (ga_val (ge_var 1) (ga_val (ge_var 5) (ga_val (ge_var 6) (ga_val (ge_callTy call_list_of k_list (by rfl) T.n_list (by decide +kernel) (ga_val (ge_var 7) ga_nil)) ga_nil)))))) (nomark _)))
(gss_one (gs_ret ge_bl)) gss_nil)))))))))))
(gss_one (gs_ret ge_bl)))))
end
theorem all_mk {l : PySem.W.OpenLaw} {w : World} {K : PySem.W.Frag} {h : Heap} {mg : Str → Option Value} {fa : Addr} (X : K.In h) (G : h.Ns mainGlobals mg) (hfa : mg "law" = some (.ref fa))
    {f0 : Addr} {od0 an0 : Option Addr} {sl0 : Array (Option Value)} {oc0 kV0 dc0 pm0 cd0 ct0 : Value}
    {f1 : Addr} {od1 an1 : Option Addr} {sl1 : Array (Option Value)} {oc1 kV1 dc1 pm1 cd1 ct1 : Value}
    {f2 : Addr} {od2 an2 : Option Addr} {sl2 : Array (Option Value)} {oc2 kV2 dc2 pm2 cd2 ct2 : Value}
    {f3 : Addr} {od3 an3 : Option Addr} {sl3 : Array (Option Value)} {oc3 kV3 dc3 pm3 cd3 ct3 : Value}
    {f4 : Addr} {od4 an4 : Option Addr} {sl4 : Array (Option Value)} {oc4 kV4 dc4 pm4 cd4 ct4 : Value}
    {f5 : Addr} {od5 an5 : Option Addr} {sl5 : Array (Option Value)} {oc5 kV5 dc5 pm5 cd5 ct5 : Value}
    {f6 : Addr} {od6 an6 : Option Addr} {sl6 : Array (Option Value)} {oc6 kV6 dc6 pm6 cd6 ct6 : Value}
    {f7 : Addr} {od7 an7 : Option Addr} {sl7 : Array (Option Value)} {oc7 kV7 dc7 pm7 cd7 ct7 : Value}
    {f8 : Addr} {od8 an8 : Option Addr} {sl8 : Array (Option Value)} {oc8 kV8 dc8 pm8 cd8 ct8 : Value}
    {f9 : Addr} {od9 an9 : Option Addr} {sl9 : Array (Option Value)} {oc9 kV9 dc9 pm9 cd9 ct9 : Value}
    {f10 : Addr} {od10 an10 : Option Addr} {sl10 : Array (Option Value)} {oc10 kV10 dc10 pm10 cd10 ct10 : Value}
    {f11 : Addr} {od11 an11 : Option Addr} {sl11 : Array (Option Value)} {oc11 kV11 dc11 pm11 cd11 ct11 : Value}
    {f12 : Addr} {od12 an12 : Option Addr} {sl12 : Array (Option Value)} {oc12 kV12 dc12 pm12 cd12 ct12 : Value}
    {f13 : Addr} {od13 an13 : Option Addr} {sl13 : Array (Option Value)} {oc13 kV13 dc13 pm13 cd13 ct13 : Value}
    {f14 : Addr} {od14 an14 : Option Addr} {sl14 : Array (Option Value)} {oc14 kV14 dc14 pm14 cd14 ct14 : Value}
    {f15 : Addr} {od15 an15 : Option Addr} {sl15 : Array (Option Value)} {oc15 kV15 dc15 pm15 cd15 ct15 : Value}
    {f16 : Addr} {od16 an16 : Option Addr} {sl16 : Array (Option Value)} {oc16 kV16 dc16 pm16 cd16 ct16 : Value}
    (a0 : PySem.W.nsIn K mainGlobals "_law_measure" = some (some (.ref f0))) (l0 : K.lookup f0 = some ⟨oc0, od0, .func (PySem.W.fnOf "_law_measure" "_law_measure" (defArgs st_l_measure) (defBody st_l_measure) (defScope st_l_measure) .none kV0 dc0 pm0 an0 cd0 ct0), sl0⟩) (c0 : PySem.W.codeIn K cd0 "_law_measure" = true) (k0 : PySem.W.keepIn K (.ref f0) = true)
    (a1 : PySem.W.nsIn K mainGlobals "_law_names" = some (some (.ref f1))) (l1 : K.lookup f1 = some ⟨oc1, od1, .func (PySem.W.fnOf "_law_names" "_law_names" (defArgs st_l_names) (defBody st_l_names) (defScope st_l_names) .none kV1 dc1 pm1 an1 cd1 ct1), sl1⟩) (c1 : PySem.W.codeIn K cd1 "_law_names" = true) (k1 : PySem.W.keepIn K (.ref f1) = true)
    (a2 : PySem.W.nsIn K mainGlobals "_law_drawn_at" = some (some (.ref f2))) (l2 : K.lookup f2 = some ⟨oc2, od2, .func (PySem.W.fnOf "_law_drawn_at" "_law_drawn_at" (defArgs st_l_drawn_at) (defBody st_l_drawn_at) (defScope st_l_drawn_at) .none kV2 dc2 pm2 an2 cd2 ct2), sl2⟩) (c2 : PySem.W.codeIn K cd2 "_law_drawn_at" = true) (k2 : PySem.W.keepIn K (.ref f2) = true)
    (a3 : PySem.W.nsIn K mainGlobals "_law_number" = some (some (.ref f3))) (l3 : K.lookup f3 = some ⟨oc3, od3, .func (PySem.W.fnOf "_law_number" "_law_number" (defArgs st_l_number) (defBody st_l_number) (defScope st_l_number) .none kV3 dc3 pm3 an3 cd3 ct3), sl3⟩) (c3 : PySem.W.codeIn K cd3 "_law_number" = true) (k3 : PySem.W.keepIn K (.ref f3) = true)
    (a4 : PySem.W.nsIn K mainGlobals "_law_leaf" = some (some (.ref f4))) (l4 : K.lookup f4 = some ⟨oc4, od4, .func (PySem.W.fnOf "_law_leaf" "_law_leaf" (defArgs st_l_leaf) (defBody st_l_leaf) (defScope st_l_leaf) .none kV4 dc4 pm4 an4 cd4 ct4), sl4⟩) (c4 : PySem.W.codeIn K cd4 "_law_leaf" = true) (k4 : PySem.W.keepIn K (.ref f4) = true)
    (a5 : PySem.W.nsIn K mainGlobals "_law_formula" = some (some (.ref f5))) (l5 : K.lookup f5 = some ⟨oc5, od5, .func (PySem.W.fnOf "_law_formula" "_law_formula" (defArgs st_l_formula) (defBody st_l_formula) (defScope st_l_formula) .none kV5 dc5 pm5 an5 cd5 ct5), sl5⟩) (c5 : PySem.W.codeIn K cd5 "_law_formula" = true) (k5 : PySem.W.keepIn K (.ref f5) = true)
    (a6 : PySem.W.nsIn K mainGlobals "_law_grown" = some (some (.ref f6))) (l6 : K.lookup f6 = some ⟨oc6, od6, .func (PySem.W.fnOf "_law_grown" "_law_grown" (defArgs st_l_grown) (defBody st_l_grown) (defScope st_l_grown) .none kV6 dc6 pm6 an6 cd6 ct6), sl6⟩) (c6 : PySem.W.codeIn K cd6 "_law_grown" = true) (k6 : PySem.W.keepIn K (.ref f6) = true)
    (a7 : PySem.W.nsIn K mainGlobals "_law_signed" = some (some (.ref f7))) (l7 : K.lookup f7 = some ⟨oc7, od7, .func (PySem.W.fnOf "_law_signed" "_law_signed" (defArgs st_l_signed) (defBody st_l_signed) (defScope st_l_signed) .none kV7 dc7 pm7 an7 cd7 ct7), sl7⟩) (c7 : PySem.W.codeIn K cd7 "_law_signed" = true) (k7 : PySem.W.keepIn K (.ref f7) = true)
    (a8 : PySem.W.nsIn K mainGlobals "worth_of_deed" = some (some (.ref f8))) (l8 : K.lookup f8 = some ⟨oc8, od8, .func (PySem.W.fnOf "worth_of_deed" "worth_of_deed" (defArgs st_f_worth_of_deed) (defBody st_f_worth_of_deed) (defScope st_f_worth_of_deed) .none kV8 dc8 pm8 an8 cd8 ct8), sl8⟩) (c8 : PySem.W.codeIn K cd8 "worth_of_deed" = true) (k8 : PySem.W.keepIn K (.ref f8) = true)
    (a9 : PySem.W.nsIn K mainGlobals "formulas_in" = some (some (.ref f9))) (l9 : K.lookup f9 = some ⟨oc9, od9, .func (PySem.W.fnOf "formulas_in" "formulas_in" (defArgs st_f_formulas_in) (defBody st_f_formulas_in) (defScope st_f_formulas_in) .none kV9 dc9 pm9 an9 cd9 ct9), sl9⟩) (c9 : PySem.W.codeIn K cd9 "formulas_in" = true) (k9 : PySem.W.keepIn K (.ref f9) = true)
    (a10 : PySem.W.nsIn K mainGlobals "reads_of" = some (some (.ref f10))) (l10 : K.lookup f10 = some ⟨oc10, od10, .func (PySem.W.fnOf "reads_of" "reads_of" (defArgs st_f_reads_of) (defBody st_f_reads_of) (defScope st_f_reads_of) .none kV10 dc10 pm10 an10 cd10 ct10), sl10⟩) (c10 : PySem.W.codeIn K cd10 "reads_of" = true) (k10 : PySem.W.keepIn K (.ref f10) = true)
    (a11 : PySem.W.nsIn K mainGlobals "worth" = some (some (.ref f11))) (l11 : K.lookup f11 = some ⟨oc11, od11, .func (PySem.W.fnOf "worth" "worth" (defArgs st_f_worth) (defBody st_f_worth) (defScope st_f_worth) .none kV11 dc11 pm11 an11 cd11 ct11), sl11⟩) (c11 : PySem.W.codeIn K cd11 "worth" = true) (k11 : PySem.W.keepIn K (.ref f11) = true)
    (a12 : PySem.W.nsIn K mainGlobals "_law_digits" = some (some (.ref f12))) (l12 : K.lookup f12 = some ⟨oc12, od12, .func (PySem.W.fnOf "_law_digits" "_law_digits" (defArgs st_l_digits) (defBody st_l_digits) (defScope st_l_digits) .none kV12 dc12 pm12 an12 cd12 ct12), sl12⟩) (c12 : PySem.W.codeIn K cd12 "_law_digits" = true) (k12 : PySem.W.keepIn K (.ref f12) = true)
    (a13 : PySem.W.nsIn K mainGlobals "_law_worth" = some (some (.ref f13))) (l13 : K.lookup f13 = some ⟨oc13, od13, .func (PySem.W.fnOf "_law_worth" "_law_worth" (defArgs st_l_worth) (defBody st_l_worth) (defScope st_l_worth) .none kV13 dc13 pm13 an13 cd13 ct13), sl13⟩) (c13 : PySem.W.codeIn K cd13 "_law_worth" = true) (k13 : PySem.W.keepIn K (.ref f13) = true)
    (a14 : PySem.W.nsIn K mainGlobals "_law_reads" = some (some (.ref f14))) (l14 : K.lookup f14 = some ⟨oc14, od14, .func (PySem.W.fnOf "_law_reads" "_law_reads" (defArgs st_l_reads) (defBody st_l_reads) (defScope st_l_reads) .none kV14 dc14 pm14 an14 cd14 ct14), sl14⟩) (c14 : PySem.W.codeIn K cd14 "_law_reads" = true) (k14 : PySem.W.keepIn K (.ref f14) = true)
    (a15 : PySem.W.nsIn K mainGlobals "_law_whole" = some (some (.ref f15))) (l15 : K.lookup f15 = some ⟨oc15, od15, .func (PySem.W.fnOf "_law_whole" "_law_whole" (defArgs st_l_whole) (defBody st_l_whole) (defScope st_l_whole) .none kV15 dc15 pm15 an15 cd15 ct15), sl15⟩) (c15 : PySem.W.codeIn K cd15 "_law_whole" = true) (k15 : PySem.W.keepIn K (.ref f15) = true)
    (a16 : PySem.W.nsIn K mainGlobals "law" = some (some (.ref f16))) (l16 : K.lookup f16 = some ⟨oc16, od16, .func (PySem.W.fnOf "law" "law" (defArgs st_l_law) (defBody st_l_law) (defScope st_l_law) .none kV16 dc16 pm16 an16 cd16 ct16), sl16⟩) (c16 : PySem.W.codeIn K cd16 "law" = true) (k16 : PySem.W.keepIn K (.ref f16) = true)
    (z_bool : PySem.W.nsIn K mainGlobals "bool" = some none)
    (z_int : PySem.W.nsIn K mainGlobals "int" = some none)
    (z_isinstance : PySem.W.nsIn K mainGlobals "isinstance" = some none)
    (z_len : PySem.W.nsIn K mainGlobals "len" = some none)
    (z_list : PySem.W.nsIn K mainGlobals "list" = some none)
    (z_max : PySem.W.nsIn K mainGlobals "max" = some none)
    (z_min : PySem.W.nsIn K mainGlobals "min" = some none)
    (z_range : PySem.W.nsIn K mainGlobals "range" = some none)
    (z_reversed : PySem.W.nsIn K mainGlobals "reversed" = some none)
    (z_sorted : PySem.W.nsIn K mainGlobals "sorted" = some none)
    (z_sum : PySem.W.nsIn K mainGlobals "sum" = some none)
    (z_tuple : PySem.W.nsIn K mainGlobals "tuple" = some none)
    : ∃ fd : FuncData, (∀ (s : Shared) (v : Value), BindsTo s fd ⟨[v], []⟩ [("_law_script", v)]) ∧ ∀ base : Heap, K.In base → base.Ns mainGlobals mg → FnOk l.prog w K mg base (L2.CX l.prog w) 28 fa fd ["_law_script"] (spOf (gam K) s_l_law7) := by
  have e := hfa.symm.trans (PySem.W.mg_of X G a16)
  cases e
  let T : Tx K mg := {
    f_l_measure := _, d_l_measure := _, F_l_measure := fun_mk (st := st_l_measure) l0 c0 k0,
    f_l_names := _, d_l_names := _, F_l_names := fun_mk (st := st_l_names) l1 c1 k1,
    f_l_drawn_at := _, d_l_drawn_at := _, F_l_drawn_at := fun_mk (st := st_l_drawn_at) l2 c2 k2,
    f_l_number := _, d_l_number := _, F_l_number := fun_mk (st := st_l_number) l3 c3 k3,
    f_l_leaf := _, d_l_leaf := _, F_l_leaf := fun_mk (st := st_l_leaf) l4 c4 k4,
    f_l_formula := _, d_l_formula := _, F_l_formula := fun_mk (st := st_l_formula) l5 c5 k5,
    f_l_grown := _, d_l_grown := _, F_l_grown := fun_mk (st := st_l_grown) l6 c6 k6,
    f_l_signed := _, d_l_signed := _, F_l_signed := fun_mk (st := st_l_signed) l7 c7 k7,
    f_f_worth_of_deed := _, d_f_worth_of_deed := _, F_f_worth_of_deed := fun_mk (st := st_f_worth_of_deed) l8 c8 k8,
    f_f_formulas_in := _, d_f_formulas_in := _, F_f_formulas_in := fun_mk (st := st_f_formulas_in) l9 c9 k9,
    f_f_reads_of := _, d_f_reads_of := _, F_f_reads_of := fun_mk (st := st_f_reads_of) l10 c10 k10,
    f_f_worth := _, d_f_worth := _, F_f_worth := fun_mk (st := st_f_worth) l11 c11 k11,
    f_l_digits := _, d_l_digits := _, F_l_digits := fun_mk (st := st_l_digits) l12 c12 k12,
    f_l_worth := _, d_l_worth := _, F_l_worth := fun_mk (st := st_l_worth) l13 c13 k13,
    f_l_reads := _, d_l_reads := _, F_l_reads := fun_mk (st := st_l_reads) l14 c14 k14,
    f_l_whole := _, d_l_whole := _, F_l_whole := fun_mk (st := st_l_whole) l15 c15 k15,
    f_l_law := _, d_l_law := _, F_l_law := fun_mk (st := st_l_law) l16 c16 k16,
    m_l_digits := PySem.W.mg_of X G a12,
    m_l_drawn_at := PySem.W.mg_of X G a2,
    m_l_formula := PySem.W.mg_of X G a5,
    m_l_grown := PySem.W.mg_of X G a6,
    m_l_leaf := PySem.W.mg_of X G a4,
    m_l_measure := PySem.W.mg_of X G a0,
    m_l_names := PySem.W.mg_of X G a1,
    m_l_number := PySem.W.mg_of X G a3,
    m_l_reads := PySem.W.mg_of X G a14,
    m_l_signed := PySem.W.mg_of X G a7,
    m_l_whole := PySem.W.mg_of X G a15,
    m_l_worth := PySem.W.mg_of X G a13,
    m_formulas_in := PySem.W.mg_of X G a9,
    m_reads_of := PySem.W.mg_of X G a10,
    m_worth := PySem.W.mg_of X G a11,
    m_worth_of_deed := PySem.W.mg_of X G a8,
    n_bool := PySem.W.mg_none_of X G z_bool,
    n_int := PySem.W.mg_none_of X G z_int,
    n_isinstance := PySem.W.mg_none_of X G z_isinstance,
    n_len := PySem.W.mg_none_of X G z_len,
    n_list := PySem.W.mg_none_of X G z_list,
    n_max := PySem.W.mg_none_of X G z_max,
    n_min := PySem.W.mg_none_of X G z_min,
    n_range := PySem.W.mg_none_of X G z_range,
    n_reversed := PySem.W.mg_none_of X G z_reversed,
    n_sorted := PySem.W.mg_none_of X G z_sorted,
    n_sum := PySem.W.mg_none_of X G z_sum,
    n_tuple := PySem.W.mg_none_of X G z_tuple
  }
  exact ⟨T.d_l_law, fun s v => .of_eq rfl, fun base _ _ => ok_l_law T⟩
theorem sp_law (K : PySem.W.Frag) (H : Hp) (a : Addr) (ns : List Int) (hl : ns.length ≤ 63) (hb : ∀ z ∈ ns, Builtin.Int.intBits z ≤ 1048576) (hS : SqL K H a (ns.map V.int)) : spOf (gam K) s_l_law7 [.ref a] H (fun v _ => v = .bl true) fun _ _ _ => False := sp_end hl hb hS (pure_law ns hl hb)
end W
open PySem PySem.W PyProof.Rows
set_option maxRecDepth 100000 in
set_option maxHeartbeats 0 in
theorem PySem.Challenge.cw_stripmill_k03_whole_worth_holds : PySem.Challenge.rw_stripmill_k03_whole_worth.Holds := by
  w_on; o_law; k_head; (case hw => w_witness2)
  k_fill
  refine L2.walk_ofB (l := PySem.Challenge.rw_stripmill_k03_whole_worth) (n := 63) (k := 28) (x := "_law_script") (CX := fun w => L2.CX PySem.Challenge.rw_stripmill_k03_whole_worth.prog w) (sp := fun w => G.spOf (W.gam _) G.s_l_law7) rfl (by decide) rfl ⟨rfl, by decide, by decide⟩ (fun w h Y => PySem.W.kIn_of Y) ?F (fun _ H a ns hl hb _ hS => W.sp_law _ H a ns hl hb hS) (fun _ _ _ _ _ z => G.cx_no z)
  case F =>
    intro w mg fa h KX G hmg
    refine' W.all_mk KX G hmg ?a0 ?l0 ?c0 ?k0 ?a1 ?l1 ?c1 ?k1 ?a2 ?l2 ?c2 ?k2 ?a3 ?l3 ?c3 ?k3 ?a4 ?l4 ?c4 ?k4 ?a5 ?l5 ?c5 ?k5 ?a6 ?l6 ?c6 ?k6 ?a7 ?l7 ?c7 ?k7 ?a8 ?l8 ?c8 ?k8 ?a9 ?l9 ?c9 ?k9 ?a10 ?l10 ?c10 ?k10 ?a11 ?l11 ?c11 ?k11 ?a12 ?l12 ?c12 ?k12 ?a13 ?l13 ?c13 ?k13 ?a14 ?l14 ?c14 ?k14 ?a15 ?l15 ?c15 ?k15 ?a16 ?l16 ?c16 ?k16 ?z_bool ?z_int ?z_isinstance ?z_len ?z_list ?z_max ?z_min ?z_range ?z_reversed ?z_sorted ?z_sum ?z_tuple
    (case a0 => k_is)
    (case l0 => k_is)
    (case c0 => k_is)
    (case k0 => k_is)
    (case a1 => k_is)
    (case l1 => k_is)
    (case c1 => k_is)
    (case k1 => k_is)
    (case a2 => k_is)
    (case l2 => k_is)
    (case c2 => k_is)
    (case k2 => k_is)
    (case a3 => k_is)
    (case l3 => k_is)
    (case c3 => k_is)
    (case k3 => k_is)
    (case a4 => k_is)
    (case l4 => k_is)
    (case c4 => k_is)
    (case k4 => k_is)
    (case a5 => k_is)
    (case l5 => k_is)
    (case c5 => k_is)
    (case k5 => k_is)
    (case a6 => k_is)
    (case l6 => k_is)
    (case c6 => k_is)
    (case k6 => k_is)
    (case a7 => k_is)
    (case l7 => k_is)
    (case c7 => k_is)
    (case k7 => k_is)
    (case a8 => k_is)
    (case l8 => k_is)
    (case c8 => k_is)
    (case k8 => k_is)
    (case a9 => k_is)
    (case l9 => k_is)
    (case c9 => k_is)
    (case k9 => k_is)
    (case a10 => k_is)
    (case l10 => k_is)
    (case c10 => k_is)
    (case k10 => k_is)
    (case a11 => k_is)
    (case l11 => k_is)
    (case c11 => k_is)
    (case k11 => k_is)
    (case a12 => k_is)
    (case l12 => k_is)
    (case c12 => k_is)
    (case k12 => k_is)
    (case a13 => k_is)
    (case l13 => k_is)
    (case c13 => k_is)
    (case k13 => k_is)
    (case a14 => k_is)
    (case l14 => k_is)
    (case c14 => k_is)
    (case k14 => k_is)
    (case a15 => k_is)
    (case l15 => k_is)
    (case c15 => k_is)
    (case k15 => k_is)
    (case a16 => k_is)
    (case l16 => k_is)
    (case c16 => k_is)
    (case k16 => k_is)
    (case z_bool => k_is)
    (case z_int => k_is)
    (case z_isinstance => k_is)
    (case z_len => k_is)
    (case z_list => k_is)
    (case z_max => k_is)
    (case z_min => k_is)
    (case z_range => k_is)
    (case z_reversed => k_is)
    (case z_sorted => k_is)
    (case z_sum => k_is)
    (case z_tuple => k_is)

