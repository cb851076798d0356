import PyProof.Rows.All
import Wide.All
import OpenK.AllK
import Wide.FinOn
import HandS.ForMost
import HandS.ForExc
import HandS.CallSlots
import HandS.Star
import HandS.IsInst
import HandS.Deep
import HandS.TupAny
import HandS.Flow
import HandS.Style
import HandS.Zip
import HandS.TupLe
import HandS.SortInts
import HandS.SortRule
import HandS.TupSets
import KE.GoesMore
import PyProof.EnumMake
import PyProof.Draws
import HandS.TryOnly
import PySem.Challenge.RW_flexhouse_k53_whole_wished_pairs
set_option Elab.async false
set_option linter.all false
set_option maxRecDepth 100000
/-! Fx core: data D, ownership trees T, a small resolved syntax (E, S), its evaluator. No machine in sight. -/
namespace Fx
open PySem

/-! ### data -/
inductive D where
  | non | bl (b : Bool) | int (i : Int) | str (x : Str)
  | tup (ds : List D) | lst (ds : List D) | rol (ds : List D) | dic (kvs : List (D × D)) | set (ds : List D) | ty (n : String)
  deriving Inhabited

mutual
def D.py : D → PyData
  | .non => .none
  | .bl b => .bool b
  | .int i => .int i
  | .str x => .str x
  | .tup ds => .tuple (pys ds)
  | .lst ds => .list (pys ds)
  | .rol _ => .dict []
  | .dic _ => .dict []
  | .set _ => .dict []
  | .ty _ => .dict []
def pys : List D → List PyData
  | [] => []
  | d :: ds => d.py :: pys ds
end
mutual
/-- may be compared by == : no dict, set, type within, texts of a usual size, at most so deep -/
def D.okE : Nat → D → Bool
  | _, .non => true
  | _, .bl _ => true
  | _, .int _ => true
  | _, .str x => PyData.canLay0 (.str x)
  | 0, .tup _ => false
  | 0, .lst _ => false
  | k + 1, .tup ds => okEs k ds
  | k + 1, .lst ds => okEs k ds
  | _, .rol _ => false
  | _, .dic _ => false
  | _, .set _ => false
  | _, .ty _ => false
def okEs : Nat → List D → Bool
  | _, [] => true
  | k, d :: ds => D.okE k d && okEs k ds
end
mutual
/-- == as Python has it: True is 1 -/
def D.eq : D → D → Bool
  | .non, .non => true
  | .bl a, .bl b => a == b
  | .bl a, .int j => (if a then 1 else 0) == j
  | .int i, .bl b => i == (if b then 1 else 0)
  | .int i, .int j => i == j
  | .str x, .str y => x == y
  | .lst xs, .lst ys => eqs xs ys
  | .tup xs, .tup ys => eqs xs ys
  | _, _ => false
def eqs : List D → List D → Bool
  | [], [] => true
  | x :: xs, y :: ys => D.eq x y && eqs xs ys
  | _, _ => false
end
mutual
/-- x < y, where it is told: at most so deep -/
def D.lt : Nat → D → D → Option Bool
  | _, .int i, .int j => some (decide (i < j))
  | _, .str x, .str y => some (decide (x.cps.toList < y.cps.toList))
  | k + 1, .tup xs, .tup ys => if okEs 50 xs && okEs 50 ys && ltAll k xs ys then some (lts k xs ys) else none
  | _, _, _ => none
/-- each two are equal, or < is told of them -/
def ltAll : Nat → List D → List D → Bool
  | k, x :: xs, y :: ys => (D.eq x y || (D.lt k x y).isSome) && ltAll k xs ys
  | _, _, _ => true
def lts : Nat → List D → List D → Bool
  | _, [], [] => false
  | _, [], _ :: _ => true
  | _, _ :: _, [] => false
  | k, x :: xs, y :: ys => if D.eq x y then lts k xs ys else (match D.lt k x y with | some b => b | none => false)
end

/-! ### ownership trees: what one place alone holds -/
inductive T where
  | fz (d : D)
  | own (ts : List T)
  | ownd (kvs : List (D × T))
  | tup (ts : List T)
  deriving Inhabited
mutual
def T.er : T → D
  | .fz d => d
  | .own ts => .lst (ers ts)
  | .ownd kvs => .dic (erk kvs)
  | .tup ts => .tup (ers ts)
def ers : List T → List D
  | [] => []
  | t :: ts => t.er :: ers ts
def erk : List (D × T) → List (D × D)
  | [] => []
  | (k, t) :: r => (k, t.er) :: erk r
end
/-- a list of the frame's own, of frozen things -/
def ol (ds : List D) : T := .own (ds.map .fz)
/-- its parts frozen -/
def T.kids : T → T
  | .fz d => .fz d
  | .own ts => .own ((ers ts).map .fz)
  | .ownd kvs => .ownd ((erk kvs).map fun p => (p.1, .fz p.2))
  | .tup ts => .fz (.tup (ers ts))
/-- no reference within -/
def T.scal : T → Bool
  | .fz .non => true
  | .fz (.bl _) => true
  | .fz (.int _) => true
  | .fz (.str _) => true
  | _ => false
def T.isFz : T → Bool
  | .fz _ => true
  | _ => false
/-- a tuple of such parts -/
def mkTup (ts : List T) : T := if ts.all T.isFz then .fz (.tup (ers ts)) else .tup ts

inductive Sl where
  | un | is (t : T) | lk (t : T)
  deriving Inhabited
abbrev Env := List Sl
inductive R where
  | t (x : T) | p (i : Nat) (ks : List Nat)
  deriving Inhabited

def getP : T → List Nat → Option T
  | t, [] => some t
  | .own ts, n :: ks => match ts[n]? with
    | some t => getP t ks
    | none => none
  | _, _ :: _ => none
def setP : T → List Nat → T → Option T
  | _, [], u => some u
  | .own ts, n :: ks, u => match ts[n]? with
    | some t => match setP t ks u with
      | some t' => some (.own (ts.set n t'))
      | none => none
    | none => none
  | _, _ :: _, _ => none

def Sl.tree : Sl → Option T
  | .un => none
  | .is t => some t
  | .lk t => some t
def slotT (e : Env) (i : Nat) : Option T := match e[i]? with
  | some (.is t) => some t
  | some (.lk t) => some t
  | _ => none
/-- what a result is worth now -/
def rd (e : Env) : R → Option D
  | .t x => some x.er
  | .p i ks => match slotT e i with
    | some t => match getP t ks with
      | some u => some u.er
      | none => none
    | none => none
def rds (e : Env) : List R → Option (List D)
  | [] => some []
  | r :: rs => match rd e r, rds e rs with
    | some d, some ds => some (d :: ds)
    | _, _ => none
/-- taken to be kept: what a slot holds is frozen there -/
def mv : R → Env → Option (T × Env)
  | .t x, e => some (x, e)
  | .p i ks, e => match e[i]? with
    | some (.is t) => match getP t ks with
      | some (.fz d) => some (.fz d, e)
      | some u => match setP t ks (.fz u.er) with
        | some t' => some (.fz u.er, e.set i (.is t'))
        | none => none
      | none => none
    | some (.lk t) => match getP t ks with
      | some (.fz d) => some (.fz d, e)
      | _ => none
    | _ => none
def mvs : List R → Env → Option (List T × Env)
  | [], e => some ([], e)
  | r :: rs, e => match mv r e with
    | some (t, e1) => match mvs rs e1 with
      | some (ts, e2) => some (t :: ts, e2)
      | none => none
    | none => none
/-- kept as data -/
def mvF (r : R) (e : Env) : Option (D × Env) := match mv r e with
  | some (t, e') => some (t.er, e')
  | none => none
def mvFs : List R → Env → Option (List D × Env)
  | [], e => some ([], e)
  | r :: rs, e => match mvF r e with
    | some (t, e1) => match mvFs rs e1 with
      | some (ts, e2) => some (t :: ts, e2)
      | none => none
    | none => none
/-- the parts of what is read are frozen (a result may hold them) -/
def kidsR : R → Env → Option Env
  | .t _, e => some e
  | .p i ks, e => match e[i]? with
    | some (.is t) => match getP t ks with
      | some u => match setP t ks u.kids with
        | some t' => some (e.set i (.is t'))
        | none => none
      | none => none
    | some (.lk t) => (match getP t ks with
      | some (.own ts) => if ts.all T.isFz then some e else none
      | some (.fz _) => some e
      | _ => none)
    | _ => none
def kidsRs : List R → Env → Option Env
  | [], e => some e
  | r :: rs, e => match kidsR r e with
    | some e1 => kidsRs rs e1
    | none => none

inductive Out (α : Type) where
  | ok (a : α) (e : Env)
  | exc (c : Nat) (fs : List D) (e : Env)
  | bad
def Out.bnd {α β : Type} : Out α → (α → Env → Out β) → Out β
  | .ok a e, f => f a e
  | .exc c fs e, _ => .exc c fs e
  | .bad, _ => .bad

/-- where nothing may be raised -/
def Out.nox {α : Type} : Out α → Out α
  | .exc _ _ _ => .bad
  | o => o
/-- a place within a tree is not kept pending: it is frozen -/
def settle (r : R) (e : Env) : Option (R × Env) := match r with
  | .p i (k :: ks) => (match mv (.p i (k :: ks)) e with
    | some (t, e') => some (.t t, e')
    | none => none)
  | r => some (r, e)
def Out.stl : Out R → Out R
  | .ok r e => (match settle r e with
    | some (r', e') => .ok r' e'
    | none => .bad)
  | o => o
/-- the slot of a place within a tree is locked -/
def lockR (r : R) (e : Env) : List (Nat × T) × Env := match r with
  | .p i (_ :: _) => (match e[i]? with
    | some (.is t) => ([(i, t)], e.set i (.lk t))
    | _ => ([], e))
  | _ => ([], e)
def unlock : List (Nat × T) → Env → Env
  | [], e => e
  | (i, t) :: is, e => unlock is (e.set i (.is t))
/-- a place that is told -/
def okL (r : R) (e : Env) : Bool := match r with
  | .p i (_ :: _) => (slotT e i).isSome
  | _ => true
def isL (r : R) (e : Env) : Bool := match rd e r with
  | some (.lst _) => true
  | _ => false
def Out.ul {α : Type} (ls : List (Nat × T)) : Out α → Out α
  | .ok a e => .ok a (unlock ls e)
  | .exc c fs e => .exc c fs (unlock ls e)
  | .bad => .bad

/-! ### functions of the text -/
inductive Res where
  | ret (r : T) (m : List T)
  | exc (c : Nat) (fs : List D) (m : List T)
/-- mu: how many first arguments may be changed (0 or 1) -/
structure Fn where
  mu : Nat
  f : List T → Option Res

def callF (fn : Fn) (rs : List R) (e : Env) : Out R :=
  match fn.mu with
  | 0 => match rds e rs with
    | none => .bad
    | some ds => match fn.f (ds.map .fz) with
      | none => .bad
      | some (.ret r _) => if r.scal then .ok (.t r) e else match mvFs rs e with
        | some (_, e') => .ok (.t r) e'
        | none => .bad
      | some (.exc c fs _) => match mvFs rs e with
        | some (_, e') => .exc c fs e'
        | none => .bad
  | 1 => match rs with
    | .p i [] :: rest => match mvFs rest e with
      | none => .bad
      | some (ds, e1) => match e1[i]? with
        | some (.is t) => match fn.f (t :: ds.map .fz) with
          | some (.ret r [t']) => .ok (.t r) (e1.set i (.is t'))
          | some (.exc c fs [t']) => .exc c fs (e1.set i (.is t'))
          | _ => .bad
        | _ => .bad
    | _ => .bad
  | _ => .bad

/-! ### operators -/
def sizeL : Nat := 16777216
def mulOk (i j : Int) : Bool := (decide (-(2 ^ 64) < i) && decide (i < 2 ^ 64)) || (decide (-(2 ^ 64) < j) && decide (j < 2 ^ 64))
def binD : Operator → D → D → Option T
  | .Add, .int i, .int j => some (.fz (.int (i + j)))
  | .Add, .str x, .str y => if x.length + y.length ≤ sizeL then some (.fz (.str (x ++ y))) else none
  | .Add, .lst xs, .lst ys => if xs.length + ys.length ≤ sizeL then some (ol (xs ++ ys)) else none
  | .Add, .tup xs, .tup ys => if xs.length + ys.length ≤ sizeL then some (.fz (.tup (xs ++ ys))) else none
  | .Sub, .int i, .int j => some (.fz (.int (i - j)))
  | .Mult, .int i, .int j => if mulOk i j then some (.fz (.int (i * j))) else none
  | .Mult, .lst xs, .int k => if -(2 ^ 63) ≤ k ∧ k < 2 ^ 63 ∧ xs.length * k.toNat ≤ sizeL then some (ol (List.replicate k.toNat xs).flatten) else none
  | .FloorDiv, .int i, .int j => if 0 < j ∧ j < 1073741824 then some (.fz (.int (i / j))) else none
  | .Mod, .int i, .int j => if 0 < j then some (.fz (.int (i % j))) else none
  | .Pow, .int i, .int j => if 0 ≤ j ∧ j ≤ 1000000 ∧ i.natAbs < 2 ^ 64 then some (.fz (.int (i ^ j.toNat))) else none
  | _, _, _ => none

def inD (d : D) : D → Option Bool
  | .tup ds => if d.okE 50 && okEs 50 ds then some (ds.any fun z => D.eq z d) else none
  | .lst ds => if d.okE 50 && okEs 50 ds then some (ds.any fun z => D.eq z d) else none
  | _ => none
def cmpD : CmpOp → D → D → Option Bool
  | .Eq, a, b => if a.okE 60 && b.okE 60 then some (D.eq a b) else none
  | .NotEq, a, b => if a.okE 60 && b.okE 60 then some (!D.eq a b) else none
  | .Lt, .int i, .int j => some (decide (i < j))
  | .LtE, .int i, .int j => some (decide (i ≤ j))
  | .Gt, .int i, .int j => some (decide (j < i))
  | .GtE, .int i, .int j => some (decide (j ≤ i))
  | .Lt, .tup a, .tup b => D.lt 4 (.tup a) (.tup b)
  | .Is, a, .non => some (match a with | .non => true | _ => false)
  | .IsNot, a, .non => some (match a with | .non => false | _ => true)
  | .Is, .bl a, .bl b => some (a == b)
  | .IsNot, .bl a, .bl b => some (!(a == b))
  | .In, a, b => inD a b
  | .NotIn, a, b => (inD a b).map fun k => !k
  | _, _, _ => none
def cmpR (o : CmpOp) (l r : R) (e : Env) : Out Bool := match rd e l, rd e r with
  | some a, some b => match cmpD o a b with
    | some k => .ok k e
    | none => .bad
  | _, _ => .bad
/-- truth -/
def truD : D → Option Bool
  | .non => some false
  | .bl b => some b
  | .int i => some (i != 0)
  | .str y => if y.length ≤ sizeL then some ((y.length : Int) != 0) else none
  | .tup ds => some (!ds.isEmpty)
  | .lst ds => some (!ds.isEmpty)
  | .rol ds => some (!ds.isEmpty)
  | .dic kvs => some (!kvs.isEmpty)
  | _ => none
def truR (r : R) (e : Env) : Option Bool := match rd e r with
  | some d => truD d
  | none => none
def ixN (n : Nat) (i : Int) : Option Nat := if 0 ≤ i then (if i < n then some i.toNat else none) else if -(n : Int) ≤ i then some (i + n).toNat else none
def ixD (ds : List D) (i : Int) : Option D := match ixN ds.length i with
  | some j => ds[j]?
  | none => none
def sIx (n d : Nat) : Option Int → Nat
  | none => d
  | some v => if v < 0 then (v + (n : Int)).toNat else min v.toNat n
def cut {α : Type} (xs : List α) (lo hi : Option Int) : List α := (xs.drop (sIx xs.length 0 lo)).take (sIx xs.length xs.length hi - sIx xs.length 0 lo)
/-- a[b], a and b data -/
def subD : D → D → Option D
  | .lst ds, .int i => ixD ds i
  | .rol ds, .int i => ixD ds i
  | .tup ds, .int i => ixD ds i
  | _, _ => none
/-- r[b] -/
def subR (r : R) (b : D) (e : Env) : Option R := match r with
  | .t x => (match x, b with
    | .own ts, .int i => (match ixN ts.length i with
      | some j => (match ts[j]? with | some u => some (.t u) | none => none)
      | none => none)
    | x, b => (match subD x.er b with | some d => some (.t (.fz d)) | none => none))
  | .p i ks => match slotT e i with
    | none => none
    | some t => match getP t ks with
      | some (.own ts) => (match b with
        | .int n => (match ixN ts.length n with
          | some j => (match ts[j]? with
            | some (.fz d) => some (.t (.fz d))
            | some _ => some (.p i (ks ++ [j]))
            | none => none)
          | none => none)
        | _ => none)
      | some (.tup ts) => (match b with
        | .int n => (match ixN ts.length n with
          | some j => (match ts[j]? with
            | some (.fz d) => some (.t (.fz d))
            | _ => none)
          | none => none)
        | _ => none)
      | some (.fz dd) => (match subD dd b with | some d => some (.t (.fz d)) | none => none)
      | _ => none
def sliceD (d : D) (lo hi : Option Int) : Option T := match d with
  | .lst ds => some (ol (cut ds lo hi))
  | .rol ds => some (ol (cut ds lo hi))
  | .tup ds => some (.fz (.tup (cut ds lo hi)))
  | _ => none
def revD : D → Option T
  | .lst ds => some (ol ds.reverse)
  | .tup ds => some (.fz (.tup ds.reverse))
  | _ => none

/-! ### built-in functions -/
inductive Bi where
  | len | abs | min | max | sum | sorted | tuple | list | int | any | all | isi | sortset
  deriving DecidableEq, Repr, Inhabited
def intsOf : List D → Option (List Int)
  | [] => some []
  | .int i :: r => (match intsOf r with | some is => some (i :: is) | none => none)
  | _ :: _ => none
def bls : List D → Option (List Bool)
  | [] => some []
  | .bl i :: r => (match bls r with | some is => some (i :: is) | none => none)
  | _ :: _ => none
def itemsD : D → Option (List D)
  | .lst ds => some ds
  | .tup ds => some ds
  | _ => none
/-! sorting: whole numbers; tuples of them -/
def insI (x : Int) : List Int → List Int
  | [] => [x]
  | y :: ys => if x ≤ y then x :: y :: ys else y :: insI x ys
def sortI : List Int → List Int
  | [] => []
  | x :: xs => insI x (sortI xs)
def ltL : List Int → List Int → Bool
  | [], [] => false
  | [], _ :: _ => true
  | _ :: _, [] => false
  | a :: as, b :: bs => if a = b then ltL as bs else decide (a < b)
def insL (x : List Int) : List (List Int) → List (List Int)
  | [] => [x]
  | y :: ys => if ltL y x then y :: insL x ys else x :: y :: ys
def sortL : List (List Int) → List (List Int)
  | [] => []
  | x :: xs => insL x (sortL xs)
def tI (is : List Int) : D := .tup (is.map .int)
/-- tuples of whole numbers, none empty -/
def tupsOf : List D → Option (List (List Int))
  | [] => some []
  | .tup ts :: r => (match intsOf ts, tupsOf r with
    | some (i :: is), some iss => some ((i :: is) :: iss)
    | _, _ => none)
  | _ :: _ => none
def firstsL : List (List Int) → List (List Int)
  | [] => []
  | x :: xs => if (firstsL xs).contains x then firstsL xs else x :: firstsL xs
/-- none below zero, all of one length -/
def evenL (iss : List (List Int)) : Bool := iss.all fun is => decide (is.length = (iss.headD []).length) && is.all fun i => decide (0 ≤ i)
def sortedD (ds : List D) : Option (List D) := match intsOf ds with
  | some is => some ((sortI is).map .int)
  | none => (match tupsOf ds with
    | some iss => some ((sortL iss).map tI)
    | none => none)
def sortsetD (ds : List D) : Option (List D) := match tupsOf ds with
  | some iss => if evenL iss && decide (iss.length < 64) then some ((sortL (firstsL iss)).map tI) else none
  | none => none
def tyName : D → String
  | .non => "NoneType" | .bl _ => "bool" | .int _ => "int" | .str _ => "str" | .tup _ => "tuple" | .lst _ => "list" | .rol _ => "list" | .dic _ => "dict" | .set _ => "set" | .ty _ => "type"
def isTy (d : D) (n : String) : Option Bool :=
  if ["bool", "int", "str", "tuple", "list", "dict"].contains n then
    (match d with
      | .ty _ => none
      | .set _ => none
      | .dic _ => none
      | .rol _ => none
      | d => some (tyName d == n || (tyName d == "bool" && n == "int")))
  else none
def isTys (d : D) : List D → Option Bool
  | [] => some false
  | .ty n :: r => (match isTy d n, isTys d r with | some a, some b => some (a || b) | _, _ => none)
  | _ :: _ => none
def biD : Bi → List D → Option T
  | .len, [.str x] => if x.length ≤ sizeL then some (.fz (.int x.length)) else none
  | .len, [.lst ds] => some (.fz (.int ds.length))
  | .len, [.rol ds] => some (.fz (.int ds.length))
  | .len, [.tup ds] => some (.fz (.int ds.length))
  | .abs, [.int i] => some (.fz (.int (if i < 0 then -i else i)))
  | .min, [.int i, .int j] => some (.fz (.int (if j < i then j else i)))
  | .max, [.int i, .int j] => some (.fz (.int (if j > i then j else i)))
  | .min, [.lst ds] => (match intsOf ds with | some (i :: is) => some (.fz (.int (is.foldl min i))) | _ => none)
  | .max, [.lst ds] => (match intsOf ds with | some (i :: is) => some (.fz (.int (is.foldl max i))) | _ => none)
  | .min, [.tup ds] => (match intsOf ds with | some (i :: is) => some (.fz (.int (is.foldl min i))) | _ => none)
  | .max, [.tup ds] => (match intsOf ds with | some (i :: is) => some (.fz (.int (is.foldl max i))) | _ => none)
  | .sum, [.lst ds] => (match intsOf ds with | some is => some (.fz (.int is.sum)) | none => none)
  | .sorted, [d] => (match itemsD d with | some ds => (match sortedD ds with | some es => some (ol es) | none => none) | none => none)
  | .sortset, [.lst ds] => (match sortsetD ds with | some es => some (ol es) | none => none)
  | .sortset, [.tup ds] => (match sortsetD ds with | some es => some (ol es) | none => none)
  | .tuple, [d] => (match itemsD d with | some ds => some (.fz (.tup ds)) | none => none)
  | .list, [d] => (match itemsD d with | some ds => some (ol ds) | none => none)
  | .int, [.int i] => some (.fz (.int i))
  | .int, [.bl b] => some (.fz (.int (if b then 1 else 0)))
  | .any, [.lst ds] => (match bls ds with | some bs => some (.fz (.bl (bs.any id))) | none => none)
  | .all, [.lst ds] => (match bls ds with | some bs => some (.fz (.bl (bs.all id))) | none => none)
  | .isi, [d, .ty n] => (match isTy d n with | some b => some (.fz (.bl b)) | none => none)
  | .isi, [d, .tup (t :: ts)] => (match isTys d (t :: ts) with | some b => some (.fz (.bl b)) | none => none)
  | _, _ => none
/-- by what is read; where the result may hold parts, they are frozen -/
def biR (b : Bi) (rs : List R) (e : Env) : Out R := match rds e rs with
  | none => .bad
  | some ds => match biD b ds with
    | none => .bad
    | some t => if t.scal then .ok (.t t) e else match kidsRs rs e with
      | some e' => .ok (.t t) e'
      | none => .bad
def binR (o : Operator) (l r : R) (e : Env) : Out R := match rd e l, rd e r with
  | some a, some b => match binD o a b with
    | none => .bad
    | some t => if t.scal then .ok (.t t) e else match kidsRs [l, r] e with
      | some e' => .ok (.t t) e'
      | none => .bad
  | _, _ => .bad

/-! ### methods -/
inductive Mt where
  | append | extend | pop | popAt
  deriving DecidableEq, Repr, Inhabited
/-- a method that changes the list at a place; the arguments are data or (append) trees -/
def mtT (m : Mt) (ts : List T) (as : List T) : Option (T × List T) := match m, as with
  | .append, [x] => if ts.length < sizeL then some (.fz .non, ts ++ [x]) else none
  | .extend, [x] => (match x with
    | .own us => if ts.length + us.length ≤ sizeL then some (.fz .non, ts ++ us) else none
    | _ => none)
  | .pop, [] => (match ts[ts.length - 1]? with | some u => some (u, ts.dropLast) | none => none)
  | .popAt, [.fz (.int i)] => if decide (-(2 ^ 62) ≤ i) && decide (i < 2 ^ 62) then (match ixN ts.length i with
    | some k => (match ts[k]? with | some u => some (u, ts.eraseIdx k) | none => none)
    | none => none) else none
  | _, _ => none
def mtR (m : Mt) (o : R) (rs : List R) (e : Env) : Out R := match o with
  | .p i ks => (match mvs rs e with
    | none => .bad
    | some (as, e1) => match e1[i]? with
      | some (.is t) => (match getP t ks with
        | some (.own ts) => (match mtT m ts as with
          | some (r, ts') => (match setP t ks (.own ts') with
            | some t' => .ok (.t r) (e1.set i (.is t'))
            | none => .bad)
          | none => .bad)
        | _ => .bad)
      | _ => .bad)
  | _ => .bad

/-! ### the resolved syntax -/
inductive Tg where
  | n (i : Nat) | t2 (a b : Tg) | t3 (a b c : Tg)
  deriving Inhabited
mutual
inductive E where
  | c (d : D) | v (i : Nat) | g (n : Nat)
  | bin (o : Operator) (a b : E) | neg (a : E)
  | cmp (a : E) (r : Cs)
  | and (a b : E) | or (a b : E) | not (a : E)
  | ife (c a b : E)
  | tup (es : Es) | lst (es : Es)
  | call (f : Nat) (es : Es) (perm : List Nat)
  | bi (b : Bi) (es : Es)
  | meth (m : Mt) (o : E) (es : Es)
  | sub (a b : E) | slc (a : E) (lo hi : Oe) | rev (a : E)
  | comp (own : List Nat) (x : E) (tg : Tg) (it : It) (ifs : Oe)
  | comp2 (own : List Nat) (x : E) (tg : Tg) (it : It) (ifs : Oe) (own1 : List Nat) (tg1 : Tg) (it1 : It) (ifs1 : Oe)
inductive Es where
  | nil | cons (x : E) (es : Es) | star (x : E) (es : Es)
inductive Cs where
  | one (o : CmpOp) (b : E) | more (o : CmpOp) (b : E) (r : Cs)
inductive Oe where
  | none | some (x : E)
inductive It where
  | e (x : E) | rng1 (a : E) | rng2 (a b : E) | enum (x : E) | zip (x y : E)
end
mutual
inductive S where
  | ex (x : E) | asg (tg : Tg) (x : E) | sset (o i x : E) | aug (i : Nat) (op : Operator) (x : E) | augS (o i : E) (op : Operator) (x : E)
  | ret (x : E) | retN | ite (c : E) (a b : Ss) | forS (tg : Tg) (it : It) (b : Ss) | whileS (c : E) (b : Ss) | brk | cnt | pass | bad
inductive Ss where
  | nil | cons (s : S) (r : Ss)
end

/-! ### the evaluator -/
def asgT : Tg → T → Env → Option Env
  | .n i, t, e => match e[i]? with
    | some (.lk _) => none
    | some _ => some (e.set i (.is t))
    | none => none
  | .t2 a b, t, e => (match t with
    | .fz (.tup [x, y]) => (match asgT a (.fz x) e with | some e1 => asgT b (.fz y) e1 | none => none)
    | .fz (.lst [x, y]) => (match asgT a (.fz x) e with | some e1 => asgT b (.fz y) e1 | none => none)
    | .tup [x, y] => (match asgT a x e with | some e1 => asgT b y e1 | none => none)
    | _ => none)
  | .t3 a b c, t, e => (match t with
    | .fz (.tup [x, y, z]) => (match asgT a (.fz x) e with
      | some e1 => (match asgT b (.fz y) e1 with | some e2 => asgT c (.fz z) e2 | none => none)
      | none => none)
    | .tup [x, y, z] => (match asgT a x e with
      | some e1 => (match asgT b y e1 with | some e2 => asgT c z e2 | none => none)
      | none => none)
    | _ => none)
def rngL (lo hi : Int) : List D := (List.range (hi - lo).toNat).map fun k => .int (lo + (k : Nat))
def enumL (ds : List D) : List D := ds.zipIdx.map fun p => .tup [.int (p.2 : Nat), p.1]
def zipL (xs ys : List D) : List D := (xs.zip ys).map fun p => .tup [p.1, p.2]
/-- what is walked is opened: its items, its slot (locked while it is walked) with what it holds, the frame then -/
def opened (r : R) (e : Env) : Option ((List D × List (Nat × T)) × Env) := match r with
  | .t x => (match itemsD x.er with | some ds => some ((ds, []), e) | none => none)
  | .p i ks => match ks, e[i]? with
    | [], some (.is (.own ts)) => some ((ers ts, [(i, (T.own ts).kids)]), e.set i (.lk (T.own ts).kids))
    | [], some (.lk (.own ts)) => if ts.all T.isFz then some ((ers ts, []), e) else none
    | ks, _ => match mvF (.p i ks) e with
      | some (d, e') => (match itemsD d with | some ds => some ((ds, []), e') | none => none)
      | none => none
def wipeE : List Nat → Env → Env
  | [], e => e
  | i :: is, e => (wipeE is e).set i .un
/-- the slots at is as they were in e0 -/
def backE (e0 : Env) : List Nat → Env → Env
  | [], e => e
  | i :: is, e => backE e0 is (e.set i (e0.getD i .un))
/-- nothing of the frame's own stands there -/
def ownOk (own : List Nat) (e : Env) : Bool := own.all fun i => match e[i]? with
  | some .un => true
  | some (.is (.fz _)) => true
  | _ => false
inductive Fl where
  | nx | rt (t : T) | bk | ct
def forL (f : D → Env → Out Fl) : List D → Env → Out Fl
  | [], e => .ok .nx e
  | d :: ds, e => match f d e with
    | .ok .nx e' => forL f ds e'
    | .ok .ct e' => forL f ds e'
    | .ok .bk e' => .ok .nx e'
    | .ok (.rt t) e' => .ok (.rt t) e'
    | .exc c fs e' => .exc c fs e'
    | .bad => .bad
def compL (f : D → Env → Out (List T)) : List D → Env → Out (List T)
  | [], e => .ok [] e
  | d :: ds, e => (f d e).nox.bnd fun t e1 => (compL f ds e1).bnd fun ts e2 => if (t ++ ts).length ≤ sizeL then .ok (t ++ ts) e2 else .bad
def whileL (c : Env → Out Bool) (f : Env → Out Fl) : Nat → Env → Out Fl
  | 0, _ => .bad
  | n + 1, e => (c e).bnd fun k e1 => match k with
    | false => .ok .nx e1
    | true => match f e1 with
      | .ok .nx e' => whileL c f n e'
      | .ok .ct e' => whileL c f n e'
      | .ok .bk e' => .ok .nx e'
      | .ok (.rt t) e' => .ok (.rt t) e'
      | .exc c fs e' => .exc c fs e'
      | .bad => .bad

def fbody (g : Env → Out Fl) (tg : Tg) : D → Env → Out Fl := fun d e2 => match asgT tg (.fz d) e2 with
  | none => .bad
  | some e3 => g e3
def forEnd (ls : List (Nat × T)) : Out Fl → Out Fl
  | .ok .nx e4 => .ok .nx (unlock ls e4)
  | .ok fl e4 => .ok fl e4
  | .exc c fs e4 => .exc c fs (unlock ls e4)
  | .bad => .bad
structure Cf where
  ft : Nat → Option Fn
  gt : Nat → Option D
  /-- the turns of a while -/
  wf : Nat

def rR : Option R → Env → Out R
  | some r, e => .ok r e
  | none, _ => .bad
def isInt : D → Option Int
  | .int i => some i
  | _ => none
def small62 (i : Int) : Bool := decide (-(2 ^ 62) ≤ i) && decide (i < 2 ^ 62)

mutual
def ev (C : Cf) : E → Env → Out R
  | .c d, e => .ok (.t (.fz d)) e
  | .v i, e => (match e[i]? with
    | some (.is (.fz d)) => .ok (.t (.fz d)) e
    | some (.lk (.fz d)) => .ok (.t (.fz d)) e
    | some (.is _) => .ok (.p i []) e
    | some (.lk _) => .ok (.p i []) e
    | _ => .bad)
  | .g n, e => (match C.gt n with | some d => .ok (.t (.fz d)) e | none => .bad)
  | .bin o a b, e => (ev C a e).stl.bnd fun l e1 => (ev C b e1).stl.bnd fun r e2 => binR o l r e2
  | .neg a, e => (ev C a e).bnd fun l e1 => (match rd e1 l with | some (.int i) => .ok (.t (.fz (.int (-i)))) e1 | _ => .bad)
  | .cmp a r, e => (ev C a e).stl.bnd fun l e1 => (evc C r l e1).bnd fun k e2 => .ok (.t (.fz (.bl k))) e2
  | .and a b, e => (ev C a e).bnd fun l e1 => (match truR l e1 with
    | some true => ev C b e1
    | some false => .ok l e1
    | none => .bad)
  | .or a b, e => (ev C a e).bnd fun l e1 => (match truR l e1 with
    | some true => .ok l e1
    | some false => ev C b e1
    | none => .bad)
  | .not a, e => (ev C a e).bnd fun l e1 => (match truR l e1 with
    | some k => .ok (.t (.fz (.bl (!k)))) e1
    | none => .bad)
  | .ife c a b, e => (ev C c e).bnd fun l e1 => (match truR l e1 with
    | some true => ev C a e1
    | some false => ev C b e1
    | none => .bad)
  | .tup es, e => (evs C es e).bnd fun rs e1 => (match mvs rs e1 with
    | some (ts, e2) => if ts.length ≤ sizeL then .ok (.t (mkTup ts)) e2 else .bad
    | none => .bad)
  | .lst es, e => (evs C es e).bnd fun rs e1 => (match mvs rs e1 with
    | some (ts, e2) => if ts.length ≤ sizeL then .ok (.t (.own ts)) e2 else .bad
    | none => .bad)
  | .call f es perm, e => (evs C es e).bnd fun rs e1 => (match C.ft f with
    | some fn => callF fn (if perm.isEmpty then rs else perm.map fun k => rs.getD k default) e1
    | none => .bad)
  | .bi b es, e => (evs C es e).bnd fun rs e1 => biR b rs e1
  | .meth m o es, e => (ev C o e).bnd fun r e1 => if okL r e1 && isL r e1 then ((evs C es (lockR r e1).2).ul (lockR r e1).1).bnd fun rs e2 => mtR m r rs e2 else .bad
  | .sub a b, e => (ev C a e).bnd fun l e1 => if okL l e1 then ((ev C b (lockR l e1).2).ul (lockR l e1).1).bnd fun r e2 => (match rd e2 r with
    | some d => rR (subR l d e2) e2
    | none => .bad) else .bad
  | .slc a lo hi, e => (ev C a e).stl.bnd fun l e1 => (evo C lo e1).bnd fun i e2 => (evo C hi e2).bnd fun j e3 => (match rd e3 l with
    | some d => (match sliceD d i j with
      | some t => (match kidsR l e3 with | some e4 => .ok (.t t) e4 | none => .bad)
      | none => .bad)
    | none => .bad)
  | .rev a, e => (ev C a e).stl.bnd fun l e1 => (match rd e1 l with
    | some d => (match revD d with
      | some t => (match kidsR l e1 with | some e4 => .ok (.t t) e4 | none => .bad)
      | none => .bad)
    | none => .bad)
  | .comp own x tg it ifs, e => (evi C it e).bnd fun o e1 => if ownOk own e1 then
      (compL (fun d e2 => match asgT tg (.fz d) e2 with
        | none => .bad
        | some e3 => (evt C ifs e3).bnd fun k e4 => if k then (ev C x e4).bnd fun r e5 => (match mv r e5 with
            | some (t, e6) => .ok [t] (wipeE own e6)
            | none => .bad) else .ok [] (wipeE own e4)) o.1 (wipeE own e1)).bnd fun ts e7 => .ok (.t (.own ts)) (unlock o.2 (backE e1 own e7)) else .bad
  | .comp2 own x tg it ifs own1 tg1 it1 ifs1, e => (evi C it e).bnd fun o e1 => if ownOk own e1 && own1.all own.contains then
      (compL (fun d e2 => match asgT tg (.fz d) e2 with
        | none => .bad
        | some e3 => (evt C ifs e3).bnd fun k e4 => if k then (evi C it1 e4).bnd fun o1 e5 => if ownOk own1 e5 then
            (compL (fun d1 e6 => match asgT tg1 (.fz d1) e6 with
              | none => .bad
              | some e7 => (evt C ifs1 e7).bnd fun k1 e8 => if k1 then (ev C x e8).bnd fun r e9 => (match mv r e9 with
                  | some (t, e10) => .ok [t] (wipeE own1 e10)
                  | none => .bad) else .ok [] (wipeE own1 e8)) o1.1 (wipeE own1 e5)).bnd fun ts e11 => .ok ts (wipeE own (unlock o1.2 e11)) else .bad
          else .ok [] (wipeE own e4)) o.1 (wipeE own e1)).bnd fun ts e7 => .ok (.t (.own ts)) (unlock o.2 (backE e1 own e7)) else .bad
def evs (C : Cf) : Es → Env → Out (List R)
  | .nil, e => .ok [] e
  | .cons x es, e => (ev C x e).stl.bnd fun r e1 => (evs C es e1).bnd fun rs e2 => .ok (r :: rs) e2
  | .star x es, e => (ev C x e).bnd fun r e1 => (match mvF r e1 with
    | some (d, e2) => (match itemsD d with
      | some ds => (evs C es e2).bnd fun rs e3 => .ok (ds.map (fun d => .t (.fz d)) ++ rs) e3
      | none => .bad)
    | none => .bad)
def evc (C : Cf) : Cs → R → Env → Out Bool
  | .one o b, l, e => (ev C b e).stl.bnd fun r e1 => cmpR o l r e1
  | .more o b rest, l, e => (ev C b e).stl.bnd fun r e1 => (cmpR o l r e1).bnd fun k e2 => if k then evc C rest r e2 else .ok false e2
def evo (C : Cf) : Oe → Env → Out (Option Int)
  | .none, e => .ok none e
  | .some x, e => (ev C x e).bnd fun r e1 => (match rd e1 r with | some (.int i) => .ok (some i) e1 | _ => .bad)
/-- a test, true where there is none -/
def evt (C : Cf) : Oe → Env → Out Bool
  | .none, e => .ok true e
  | .some x, e => (ev C x e).bnd fun r e1 => (match truR r e1 with | some k => .ok k e1 | none => .bad)
/-- what is walked: its items, the slots to unlock -/
def evi (C : Cf) : It → Env → Out (List D × List (Nat × T))
  | .e x, e => (ev C x e).bnd fun r e1 => (match opened r e1 with
    | some (o, e2) => .ok o e2
    | none => .bad)
  | .rng1 a, e => (ev C a e).bnd fun r e1 => (match rd e1 r with
    | some (.int n) => if small62 n then .ok (rngL 0 n, []) e1 else .bad
    | _ => .bad)
  | .rng2 a b, e => (ev C a e).stl.bnd fun l e1 => (ev C b e1).stl.bnd fun r e2 => (match rd e2 l, rd e2 r with
    | some (.int m), some (.int n) => if small62 m && small62 n then .ok (rngL m n, []) e2 else .bad
    | _, _ => .bad)
  | .enum x, e => (ev C x e).bnd fun r e1 => (match mvF r e1 with
    | some (d, e2) => (match itemsD d with
      | some ds => .ok (enumL ds, []) e2
      | none => .bad)
    | none => .bad)
  | .zip x y, e => (ev C x e).stl.bnd fun l e1 => (ev C y e1).stl.bnd fun r e2 => (match mvFs [l, r] e2 with
    | some ([.lst xs, .lst ys], e3) => .ok (zipL xs ys, []) e3
    | some ([.tup xs, .tup ys], e3) => .ok (zipL xs ys, []) e3
    | _ => .bad)
end
def evT (C : Cf) (x : E) (e : Env) : Out Bool := (ev C x e).bnd fun r e1 => match truR r e1 with
  | some k => .ok k e1
  | none => .bad
/-- a value that is handed back: what a slot alone holds goes out with it -/
def outT (r : R) (e : Env) : Option (T × Env) := match r with
  | .p i [] => (match e[i]? with
    | some (.is t) => some (t, e.set i .un)
    | _ => none)
  | r => mv r e

mutual
def ex (C : Cf) : S → Env → Out Fl
  | .ex x, e => (ev C x e).bnd fun _ e1 => .ok .nx e1
  | .asg tg x, e => (ev C x e).bnd fun r e1 => (match mv r e1 with
    | some (t, e2) => (match asgT tg t e2 with
      | some e3 => .ok .nx e3
      | none => .bad)
    | none => .bad)
  | .sset o i x, e => (ev C x e).stl.bnd fun r e1 => (ev C o e1).bnd fun ro e2 => if !(okL ro e2 && isL ro e2) then .bad else ((ev C i (lockR ro e2).2).ul (lockR ro e2).1).bnd fun ri e3 =>
      (match rd e3 ri, mv r e3, ro with
    | some (.int n), some (t, e4), .p j ks => (match e4[j]? with
      | some (.is u) => (match getP u ks with
        | some (.own ts) => (match ixN ts.length n with
          | some k => (match setP u ks (.own (ts.set k t)) with
            | some u' => .ok .nx (e4.set j (.is u'))
            | none => .bad)
          | none => .bad)
        | _ => .bad)
      | _ => .bad)
    | _, _, _ => .bad)
  | .aug i op x, e => (match e[i]? with
    | some (.is (.fz a)) => (ev C x e).bnd fun r e1 => (match e1[i]?, rd e1 r with
      | some (.is (.fz _)), some b => (match binD op a b with
        | some (.fz (.int n)) => .ok .nx (e1.set i (.is (.fz (.int n))))
        | some (.fz (.str n)) => .ok .nx (e1.set i (.is (.fz (.str n))))
        | _ => .bad)
      | _, _ => .bad)
    | _ => .bad)
  | .augS o i op x, e => (ev C o e).bnd fun ro e1 => if !(okL ro e1 && isL ro e1) then .bad else ((ev C i (lockR ro e1).2).ul (lockR ro e1).1).bnd fun ri e2 => (match rd e2 ri, ro with
    | some (.int n), .p j ks => (match slotT e2 j with
      | some u => (match getP u ks with
        | some (.own ts) => (match ixN ts.length n with
          | some m => (match ts[m]? with
            | some (.fz a) => ((ev C x (lockR ro e2).2).ul (lockR ro e2).1).bnd fun r e3 => (match rd e3 r, e3[j]? with
              | some b, some (.is u3) => (match binD op a b, getP u3 ks with
                | some (.fz (.int z)), some (.own ts3) => (match ixN ts3.length n with
                  | some k => (match setP u3 ks (.own (ts3.set k (.fz (.int z)))) with
                    | some u' => .ok .nx (e3.set j (.is u'))
                    | none => .bad)
                  | none => .bad)
                | _, _ => .bad)
              | _, _ => .bad)
            | _ => .bad)
          | none => .bad)
        | _ => .bad)
      | none => .bad)
    | _, _ => .bad)
  | .ret x, e => (ev C x e).bnd fun r e1 => (match outT r e1 with
    | some (t, e2) => .ok (.rt t) e2
    | none => .bad)
  | .retN, e => .ok (.rt (.fz .non)) e
  | .ite c a b, e => (evT C c e).bnd fun k e1 => if k then exs C a e1 else exs C b e1
  | .forS tg it b, e => (evi C it e).bnd fun o e1 => forEnd o.2 (forL (fbody (fun e3 => exs C b e3) tg) o.1 e1)
  | .whileS c b, e => whileL (fun e1 => evT C c e1) (fun e1 => exs C b e1) C.wf e
  | .brk, e => .ok .bk e
  | .cnt, e => .ok .ct e
  | .pass, e => .ok .nx e
  | .bad, _ => .bad
def exs (C : Cf) : Ss → Env → Out Fl
  | .nil, e => .ok .nx e
  | .cons s r, e => match ex C s e with
    | .ok .nx e1 => exs C r e1
    | .ok fl e1 => .ok fl e1
    | .exc c fs e1 => .exc c fs e1
    | .bad => .bad
end
/-- the frame at the start: n slots, the arguments first -/
def startE (n : Nat) (ts : List T) : Env := ts.map .is ++ List.replicate (n - ts.length) .un
/-- what the first mu slots hold at last -/
def lastM : Nat → Env → Option (List T)
  | 0, _ => some []
  | 1, e => (match slotT e 0 with
    | some t => some [t]
    | none => none)
  | _, _ => none
/-- a def: n slots, mu first arguments that may be changed -/
def runF (C : Cf) (n mu : Nat) (b : Ss) (ts : List T) : Option Res := match exs C b (startE n ts) with
  | .ok .nx e => (match lastM mu e with | some m => some (.ret (.fz .non) m) | none => none)
  | .ok (.rt t) e => (match lastM mu e with | some m => some (.ret t m) | none => none)
  | .exc c fs e => (match lastM mu e with | some m => some (.exc c fs m) | none => none)
  | _ => none
/-- the functions that stand ahead; the constants -/
def cf (gs : List D) (l : List Fn) (wf : Nat := 100000) : Cf := { ft := fun i => l[i]?, gt := fun i => gs[i]?, wf := wf }
def mkFn (gs : List D) (l : List Fn) (n mu : Nat) (b : Ss) : Fn := ⟨mu, runF (cf gs l) n mu b⟩
end Fx

set_option Elab.async false
set_option linter.all false
set_option maxRecDepth 100000
namespace Fx
open PySem PySem.Spec PyProof.Rows L2
theorem forIn_all {α σ : Type} {f : α → σ → Sem (ForInStep σ)} {g : σ → α → σ} : ∀ {l : List α} {s : σ}, (∀ (pre post : List α) (k : α), l = pre ++ k :: post → f k (pre.foldl g s) = pure (.yield (g (pre.foldl g s) k))) → forIn l s f = pure (l.foldl g s)
  | [], s, _ => rfl
  | k :: l, s, h => by
    have h0 : f k s = pure (.yield (g s k)) := h [] l k rfl
    rw [List.forIn_cons, h0]
    show forIn l (g s k) f = _
    rw [forIn_all fun pre post k' e => by have := h (k :: pre) post k' (by rw [e]; rfl); exact this]
    rfl
/-- parameters without more -/
def plainA (a : Arguments) (ps : List Str) : Bool := a.posonlyargs.isEmpty && a.kwonlyargs.isEmpty && a.vararg.isNone && a.kwarg.isNone && decide (a.args.map (·.arg) = ps) && decide ps.Nodup
/-- n values by place, the others by name: perm tells for each parameter its place among all values -/
def shapeOk (ps : List Str) (n : Nat) (ks : List Str) (perm : List Nat) : Bool := decide (n + ks.length = ps.length) && decide (ps.map (fun p => (ps.take n ++ ks).idxOf p) = perm) && ks.all ps.contains && ps.all (ps.take n ++ ks).contains && decide (ps.take n ++ ks).Nodup
def KBa (fd : FuncData) (ps : List Str) : Prop := ∀ (n : Nat) (ks : List Str) (perm : List Nat), shapeOk ps n ks perm = true → ∀ us ws : List Value, us.length = n → ws.length = ks.length → bindArgs fd ⟨us, ks.zip ws⟩ = pure (ps.zip (perm.map fun k => (us ++ ws).getD k .none))
theorem sem_pb {α β : Type} (a : α) (f : α → Sem β) : (pure a >>= f) = f a := rfl
theorem seqNone : seqItems? Value.none = pure none := rfl
theorem zip_take {α β : Type} : ∀ (n : Nat) (ps : List α) (us : List β), us.length = n → ps.zip us = (ps.take n).zip us
  | 0, ps, [], _ => by simp
  | n + 1, [], us, _ => by simp
  | n + 1, p :: ps, u :: us, h => by
    rw [List.take_succ_cons, List.zip_cons_cons, List.zip_cons_cons, zip_take n ps us (by simpa using h)]
theorem foldl_slots : ∀ (l : List (Str × Value)) (s : List (Str × Value)) (x : List (Str × Value)), l.foldl (fun (s : List (Str × Value) × List (Str × Value)) k => (s.1 ++ [k], s.2)) (s, x) = (s ++ l, x)
  | [], s, x => by simp
  | k :: l, s, x => by rw [List.foldl_cons, foldl_slots l]; simp
theorem lookup_zip {α : Type} : ∀ (ns : List Str) (vs : List α) (p : Str), ns.length = vs.length → (ns.zip vs).lookup p = vs[ns.idxOf p]?
  | [], [], p, _ => rfl
  | n :: ns, v :: vs, p, h => by
    rw [List.zip_cons_cons, List.lookup_cons, List.idxOf_cons]
    by_cases e : p = n
    · subst e; simp
    · have e1 : (p == n) = false := by simpa using e
      have e2 : (n == p) = false := by simpa using fun z : n = p => e z.symm
      rw [e1, e2]
      simpa using lookup_zip ns vs p (by simpa using h)
theorem zip_all {ns : List Str} {vs : List Value} (hn : ns.length = vs.length) (d : Value) : ∀ (ps : List Str), (∀ p ∈ ps, p ∈ ns) → ps.filterMap (fun n => Option.map (fun x => (n, x)) (List.lookup n (ns.zip vs))) = ps.zip (ps.map fun p => vs.getD (ns.idxOf p) d)
  | [], _ => rfl
  | p :: ps, h => by
    rw [List.filterMap_cons, lookup_zip _ _ _ hn, zip_all hn d ps fun q hq => h q (List.mem_cons_of_mem _ hq)]
    have : ns.idxOf p < vs.length := by rw [← hn]; exact List.idxOf_lt_length_iff.mpr (h p List.mem_cons_self)
    simp [List.getElem?_eq_getElem this, this]
theorem kba_plain {fd : FuncData} {ps : List Str} (h : plainA fd.params ps = true) (hd : fd.defaults = .none) : KBa fd ps := by
  intro n ks perm hs us ws hu hw
  simp only [plainA, Bool.and_eq_true, List.isEmpty_iff, Option.isNone_iff_eq_none, decide_eq_true_eq] at h
  obtain ⟨⟨⟨⟨⟨h1, h2⟩, h3⟩, h4⟩, h5⟩, h6⟩ := h
  simp only [shapeOk, Bool.and_eq_true, decide_eq_true_eq, List.all_eq_true, List.contains_iff_mem] at hs
  obtain ⟨⟨⟨⟨s1, s2⟩, s3⟩, s4⟩, s5⟩ := hs
  have hz : ps.zip us ++ ks.zip ws = (ps.take n ++ ks).zip (us ++ ws) := by
    rw [List.zip_append (by rw [List.length_take]; omega)]
    rw [zip_take n ps us hu]
  have hn : (ps.take n ++ ks).length = (us ++ ws).length := by rw [List.length_append, List.length_append, List.length_take]; omega
  unfold bindArgs
  simp only [h1, h2, h3, h4, h5, hd, List.map_nil, List.nil_append]
  rw [forIn_all (g := fun s k => (s.1 ++ [k], s.2))]
  · simp only [foldl_slots, seqNone, sem_pb, Option.isNone_none, Bool.and_true, Option.getD_none, hz]
    rw [if_neg (by simp; omega)]
    simp only [List.drop_nil, List.length_nil, Nat.sub_zero, List.zip_nil_right, List.forIn_nil, sem_pb]
    have hm : List.filter (fun n_1 => (List.lookup n_1 ((List.take n ps ++ ks).zip (us ++ ws))).isNone) (List.take ps.length ps) = [] := by
      rw [List.take_length, List.filter_eq_nil_iff]
      intro p hp
      have : (ps.take n ++ ks).idxOf p < (us ++ ws).length := by rw [← hn]; exact List.idxOf_lt_length_iff.mpr (s4 p hp)
      rw [lookup_zip _ _ _ hn, List.getElem?_eq_getElem this]
      simp
    have hx : ([] : List Value).toArray.toList = [] := rfl
    simp only [hm]
    show pure _ = _
    congr 1
    rw [List.append_nil]
    rw [zip_all hn .none _ s4, ← s2]
    simp [List.map_map]
    try rfl
  · intro pre post k e
    rw [foldl_slots]
    have hk : k.1 ∈ ks := by
      have : k ∈ ks.zip ws := by rw [e]; simp
      exact (List.of_mem_zip (a := k.1) (b := k.2) this).1
    show (if (ps.contains k.1 || ([] : List Str).contains k.1) = true then _ else _) = _
    rw [if_pos (by simp [s3 k.1 hk])]
    rw [if_neg ?_]
    rw [Bool.not_eq_true, Option.isSome_eq_false_iff, Option.isNone_iff_eq_none]
    have e1 : ks = pre.map (·.1) ++ k.1 :: post.map (·.1) := by
      have := congrArg (fun l => l.map (·.1)) e
      simp only [List.map_append, List.map_cons] at this
      rw [← this, List.map_fst_zip (by omega)]
    have hnm : k.1 ∉ (ps.take n ++ pre.map (·.1)) := by
      rw [e1] at s5
      have := (List.nodup_append.mp (by rw [← List.append_assoc] at s5; exact s5)).2.2
      exact fun z => this k.1 z k.1 List.mem_cons_self rfl
    rw [List.lookup_eq_none_iff]
    intro p hp
    rcases List.mem_append.mp hp with z | z
    · have : p.1 ∈ ps.take n := by
        rw [zip_take n ps us hu] at z
        exact (List.of_mem_zip (a := p.1) (b := p.2) z).1
      simp only [beq_eq_false_iff_ne, ne_eq, bne_iff_ne]
      intro q
      exact hnm (by rw [q]; simp [this])
    · simp only [beq_eq_false_iff_ne, ne_eq, bne_iff_ne]
      intro q
      exact hnm (by rw [q]; exact List.mem_append_right _ (List.mem_map_of_mem z))
theorem idx_range : ∀ {ps : List Str}, ps.Nodup → ps.map (fun p => ps.idxOf p) = List.range ps.length := fun {ps} nd => by
  apply List.ext_getElem
  · simp
  · intro i h1 h2
    simp only [List.getElem_map, List.getElem_range]
    exact nd.idxOf_getElem i (by simpa using h1)
theorem range_getD {α : Type} (d : α) (l : List α) : (List.range l.length).map (fun k => l.getD k d) = l := by
  apply List.ext_getElem
  · simp
  · intro i h1 h2
    have : i < l.length := h2
    simp [this]
theorem KBa.pos {fd : FuncData} {ps : List Str} (h : KBa fd ps) (nd : ps.Nodup) (us : List Value) (hl : us.length = ps.length) : bindArgs fd ⟨us, []⟩ = pure (ps.zip us) := by
  have e := h ps.length [] (List.range ps.length) (by simp [shapeOk, idx_range nd, nd]) us [] hl rfl
  rw [List.zip_nil_right, List.append_nil] at e
  rw [e, ← hl, range_getD]
end Fx

set_option Elab.async false
set_option linter.all false
set_option maxRecDepth 100000
/-! Fx relation: what of the machine's abstract heap stands for data and trees. -/
namespace Fx
open PySem PySem.Spec PyProof.Rows L2

/-- a tuple: known, or of the written part -/
def SqU (K : PySem.W.Frag) (H : Hp) (a : Addr) (xs : List V) : Prop := H a = some (.tup xs) ∨
    ∃ (o : Obj) (its : Array Value) (n : Nat), K.lookup a = some o ∧ o.cls = .type "tuple" ∧ o.data = .seq its n ∧ its.size ≤ sizeLine ∧ Vals xs its.toList
theorem SqU.t {K : PySem.W.Frag} {H : Hp} {a : Addr} {xs : List V} (h : SqU K H a xs) : SqT K H a xs := h.elim SqT.of .inr
theorem SqU.of {K : PySem.W.Frag} {H : Hp} {a : Addr} {xs : List V} (h : H a = some (.tup xs)) : SqU K H a xs := .inl h
mutual
inductive RP (K : PySem.W.Frag) (F : Hp) : V → D → Prop
  | non : RP K F .non .non
  | bl (b : Bool) : RP K F (.bl b) (.bl b)
  | int (i : Int) : RP K F (.int i) (.int i)
  | str (x : Str) : RP K F (.str x) (.str x)
  | ty (n : String) : RP K F (.ty n) (.ty n)
  | tup {a : Addr} {xs : List V} {ds : List D} : SqU K F a xs → RPs K F xs ds → RP K F (.ref a) (.tup ds)
  | lst {a : Addr} {xs : List V} {ds : List D} : F a = some (.lst xs) → RPs K F xs ds → RP K F (.ref a) (.lst ds)
  | rol {a : Addr} {xs : List V} {ds : List D} : SqL K F a xs → RPs K F xs ds → RP K F (.ref a) (.rol ds)
inductive RPs (K : PySem.W.Frag) (F : Hp) : List V → List D → Prop
  | nil : RPs K F [] []
  | cons {v : V} {vs : List V} {d : D} {ds : List D} : RP K F v d → RPs K F vs ds → RPs K F (v :: vs) (d :: ds)
end
mutual
inductive RT (K : PySem.W.Frag) (F H : Hp) : V → T → List Addr → Prop
  | fz {v : V} {d : D} : RP K F v d → RT K F H v (.fz d) []
  | own {a : Addr} {xs : List V} {ts : List T} {fp : List Addr} : F a = none → H a = some (.lst xs) → RTs K F H xs ts fp → RT K F H (.ref a) (.own ts) (a :: fp)
  | tup {a : Addr} {xs : List V} {ts : List T} {fp : List Addr} : F a = some (.tup xs) → RTs K F H xs ts fp → RT K F H (.ref a) (.tup ts) fp
inductive RTs (K : PySem.W.Frag) (F H : Hp) : List V → List T → List Addr → Prop
  | nil : RTs K F H [] [] []
  | cons {v : V} {vs : List V} {t : T} {ts : List T} {fp fps : List Addr} : RT K F H v t fp → RTs K F H vs ts fps → RTs K F H (v :: vs) (t :: ts) (fp ++ fps)
end

theorem SqU.mn {K : PySem.W.Frag} {F F' : Hp} {a : Addr} {xs : List V} (s : Same F F') (h : SqU K F a xs) : SqU K F' a xs := h.elim (fun h => .inl (s _ _ h)) .inr
mutual
theorem RP.mn {K : PySem.W.Frag} {F F' : Hp} (s : Same F F') : ∀ {v : V} {d : D}, RP K F v d → RP K F' v d
  | _, _, .non => .non
  | _, _, .bl b => .bl b
  | _, _, .int i => .int i
  | _, _, .str x => .str x
  | _, _, .ty n => .ty n
  | _, _, .tup h hs => .tup (SqU.mn s h) (RPs.mn s hs)
  | _, _, .lst h hs => .lst (s _ _ h) (RPs.mn s hs)
  | _, _, .rol h hs => .rol (s.seq h) (RPs.mn s hs)
theorem RPs.mn {K : PySem.W.Frag} {F F' : Hp} (s : Same F F') : ∀ {vs : List V} {ds : List D}, RPs K F vs ds → RPs K F' vs ds
  | _, _, .nil => .nil
  | _, _, .cons h hs => .cons (RP.mn s h) (RPs.mn s hs)
end
section
variable {K : PySem.W.Frag} {F F' H H' : Hp}
theorem RPs.len : ∀ {vs : List V} {ds : List D}, RPs K F vs ds → vs.length = ds.length
  | _, _, .nil => rfl
  | _, _, .cons _ hs => by simp [RPs.len hs]
theorem RPs.get : ∀ {vs : List V} {ds : List D} {i : Nat} {d : D}, RPs K F vs ds → ds[i]? = some d → ∃ v, vs[i]? = some v ∧ RP K F v d
  | _, _, _, _, .nil, h => by simp at h
  | _, _, 0, _, .cons h _, e => by simp at e; subst e; exact ⟨_, rfl, h⟩
  | _, _, i + 1, _, .cons _ hs, e => by
    obtain ⟨v, h1, h2⟩ := RPs.get (i := i) hs (by simpa using e)
    exact ⟨v, by simpa using h1, h2⟩
theorem RPs.getV : ∀ {vs : List V} {ds : List D} {i : Nat} {v : V}, RPs K F vs ds → vs[i]? = some v → ∃ d, ds[i]? = some d ∧ RP K F v d
  | _, _, _, _, .nil, h => by simp at h
  | _, _, 0, _, .cons h _, e => by simp at e; subst e; exact ⟨_, rfl, h⟩
  | _, _, i + 1, _, .cons _ hs, e => by
    obtain ⟨v, h1, h2⟩ := RPs.getV (i := i) hs (by simpa using e)
    exact ⟨v, by simpa using h1, h2⟩
theorem RPs.app : ∀ {vs ws : List V} {ds es : List D}, RPs K F vs ds → RPs K F ws es → RPs K F (vs ++ ws) (ds ++ es)
  | _, _, _, _, .nil, h => h
  | _, _, _, _, .cons h hs, k => .cons h (RPs.app hs k)
theorem RPs.take : ∀ (n : Nat) {vs : List V} {ds : List D}, RPs K F vs ds → RPs K F (vs.take n) (ds.take n)
  | 0, _, _, _ => by simpa using RPs.nil
  | _ + 1, _, _, .nil => .nil
  | n + 1, _, _, .cons h hs => .cons h (RPs.take n hs)
theorem RPs.drop : ∀ (n : Nat) {vs : List V} {ds : List D}, RPs K F vs ds → RPs K F (vs.drop n) (ds.drop n)
  | 0, _, _, h => h
  | _ + 1, _, _, .nil => .nil
  | n + 1, _, _, .cons _ hs => RPs.drop n hs
theorem RPs.rev : ∀ {vs : List V} {ds : List D}, RPs K F vs ds → RPs K F vs.reverse ds.reverse
  | _, _, .nil => .nil
  | _, _, .cons h hs => by simp only [List.reverse_cons]; exact RPs.app (RPs.rev hs) (.cons h .nil)
theorem RPs.ofMap : ∀ {vs : List V} {ds : List D}, (∃ n, vs.length = n ∧ ds.length = n) → (∀ (i : Nat) v d, vs[i]? = some v → ds[i]? = some d → RP K F v d) → RPs K F vs ds
  | [], [], _, _ => .nil
  | [], _ :: _, ⟨_, h1, h2⟩, _ => by simp at h1; subst h1; simp at h2
  | _ :: _, [], ⟨_, h1, h2⟩, _ => by simp at h2; subst h2; simp at h1
  | v :: vs, d :: ds, ⟨n, h1, h2⟩, h => .cons (h 0 v d rfl rfl) (RPs.ofMap ⟨vs.length, rfl, by simp at h1 h2; omega⟩ fun i v' d' e1 e2 => h (i + 1) v' d' (by simpa using e1) (by simpa using e2))

theorem RTs.len : ∀ {vs : List V} {ts : List T} {fp : List Addr}, RTs K F H vs ts fp → vs.length = ts.length
  | _, _, _, .nil => rfl
  | _, _, _, .cons _ hs => by simp [RTs.len hs]
theorem RTs.app : ∀ {vs ws : List V} {ts us : List T} {fp fq : List Addr}, RTs K F H vs ts fp → RTs K F H ws us fq → RTs K F H (vs ++ ws) (ts ++ us) (fp ++ fq)
  | _, _, _, _, _, _, .nil, h => h
  | _, _, _, _, _, _, .cons h hs, k => by
    have := RTs.cons h (RTs.app hs k)
    simpa [List.append_assoc] using this
theorem RTs.ofFz : ∀ {vs : List V} {ds : List D}, RPs K F vs ds → RTs K F H vs (ds.map .fz) []
  | _, _, .nil => .nil
  | _, _, .cons h hs => RTs.cons (.fz h) (RTs.ofFz hs)
theorem RTs.fzs : ∀ {vs : List V} {ts : List T} {fp : List Addr}, RTs K F H vs ts fp → ts.all T.isFz = true → fp = [] ∧ RPs K F vs (ers ts)
  | _, _, _, .nil, _ => ⟨rfl, .nil⟩
  | _, _, _, .cons (t := t) h hs, e => by
    simp only [List.all_cons, Bool.and_eq_true] at e
    obtain ⟨e1, e2⟩ := RTs.fzs hs e.2
    cases h with
    | fz q => subst e1; exact ⟨rfl, .cons q e2⟩
    | own _ _ _ => exact absurd e.1 (by simp [T.isFz])
    | tup _ _ => exact absurd e.1 (by simp [T.isFz])
theorem RTs.split : ∀ {vs : List V} {ts us : List T} {fp : List Addr}, RTs K F H vs (ts ++ us) fp → ∃ vs1 vs2 fp1 fp2, vs = vs1 ++ vs2 ∧ fp = fp1 ++ fp2 ∧ RTs K F H vs1 ts fp1 ∧ RTs K F H vs2 us fp2
  | vs, [], us, fp, h => ⟨[], vs, [], fp, rfl, rfl, .nil, h⟩
  | _, t :: ts, us, _, .cons (v := v) (vs := vs) (fp := fp) (fps := fps) h hs => by
    obtain ⟨v1, v2, f1, f2, rfl, rfl, h1, h2⟩ := RTs.split (ts := ts) hs
    exact ⟨v :: v1, v2, fp ++ f1, f2, rfl, by simp, .cons h h1, h2⟩
theorem RTs.at : ∀ {vs : List V} {ts : List T} {fp : List Addr} {i : Nat} {t : T}, RTs K F H vs ts fp → ts[i]? = some t → ∃ v A q B, vs[i]? = some v ∧ fp = A ++ q ++ B ∧ RT K F H v t q ∧
    ∀ {F' H' : Hp} {v' : V} {u : T} {q' : List Addr}, (∀ {v t fp}, RT K F H v t fp → (∀ a ∈ fp, a ∈ A ++ B) → RT K F' H' v t fp) → RT K F' H' v' u q' → RTs K F' H' (vs.set i v') (ts.set i u) (A ++ q' ++ B)
  | _, _, _, _, _, .nil, e => by simp at e
  | _, _, _, 0, _, .cons (vs := vs) (ts := ts) (fp := fp) (fps := fps) h hs, e => by
    simp at e; subst e
    refine ⟨_, [], fp, fps, rfl, by simp, h, fun {F' H' v' u q'} k r => ?_⟩
    simp only [List.set_cons_zero, List.nil_append]
    refine .cons r ?_
    have all : ∀ {vs : List V} {ts : List T} {fp : List Addr}, RTs K F H vs ts fp → (∀ a ∈ fp, a ∈ fps) → RTs K F' H' vs ts fp := fun {vs ts fp} r hs => by
      induction ts generalizing vs fp with
      | nil => cases r; exact .nil
      | cons t ts ih =>
        cases r with
        | cons r1 r2 => exact .cons (k r1 fun a ha => by simpa using hs a (List.mem_append_left _ ha)) (ih r2 fun a ha => hs a (List.mem_append_right _ ha))
    exact all hs fun _ h => h
  | _, _, _, i + 1, _, .cons (v := v) (t := t) (fp := fp) (fps := fps) h hs, e => by
    obtain ⟨v', A, q, B, h1, h2, h3, h4⟩ := RTs.at (i := i) hs (by simpa using e)
    refine ⟨v', fp ++ A, q, B, by simpa using h1, by simp [h2], h3, fun {F' H' w u q'} k r => ?_⟩
    have := RTs.cons (k h fun a ha => by simp [ha]) (h4 (fun r hs => k r fun a ha => by
      have := hs a ha
      simp at this ⊢
      rcases this with z | z <;> simp [z]) r)
    simpa [List.append_assoc] using this
end
mutual
/-- what a tree leans on: the known heap, and its own objects -/
theorem RT.frame {K : PySem.W.Frag} {F F' H H' : Hp} (s : Same F F') : ∀ {v : V} {t : T} {fp : List Addr}, RT K F H v t fp → (∀ a ∈ fp, F' a = none ∧ H' a = H a) → RT K F' H' v t fp
  | _, _, _, .fz h, _ => .fz (h.mn s)
  | _, _, _, .own h1 h2 hs, k => .own (k _ List.mem_cons_self).1 ((k _ List.mem_cons_self).2.trans h2) (RTs.frame s hs fun a ha => k a (List.mem_cons_of_mem _ ha))
  | _, _, _, .tup h hs, k => .tup (s _ _ h) (RTs.frame s hs k)
theorem RTs.frame {K : PySem.W.Frag} {F F' H H' : Hp} (s : Same F F') : ∀ {vs : List V} {ts : List T} {fp : List Addr}, RTs K F H vs ts fp → (∀ a ∈ fp, F' a = none ∧ H' a = H a) → RTs K F' H' vs ts fp
  | _, _, _, .nil, _ => .nil
  | _, _, _, .cons h hs, k => .cons (RT.frame s h fun a ha => k a (List.mem_append_left _ ha)) (RTs.frame s hs fun a ha => k a (List.mem_append_right _ ha))
end
mutual
/-- frozen: its objects come to the known ones -/
theorem RT.frz {K : PySem.W.Frag} {F F' H : Hp} (s : Same F F') : ∀ {v : V} {t : T} {fp : List Addr}, RT K F H v t fp → (∀ a ∈ fp, F' a = H a) → RP K F' v t.er
  | _, _, _, .fz h, _ => h.mn s
  | _, _, _, .own h1 h2 hs, k => .lst ((k _ List.mem_cons_self).trans h2) (RTs.frz s hs fun a ha => k a (List.mem_cons_of_mem _ ha))
  | _, _, _, .tup h hs, k => .tup (SqU.of (s _ _ h)) (RTs.frz s hs k)
theorem RTs.frz {K : PySem.W.Frag} {F F' H : Hp} (s : Same F F') : ∀ {vs : List V} {ts : List T} {fp : List Addr}, RTs K F H vs ts fp → (∀ a ∈ fp, F' a = H a) → RPs K F' vs (ers ts)
  | _, _, _, .nil, _ => .nil
  | _, _, _, .cons h hs, k => .cons (RT.frz s h fun a ha => k a (List.mem_append_left _ ha)) (RTs.frz s hs fun a ha => k a (List.mem_append_right _ ha))
end
mutual
theorem RT.mem {K : PySem.W.Frag} {F H : Hp} : ∀ {v : V} {t : T} {fp : List Addr}, RT K F H v t fp → ∀ a ∈ fp, F a = none ∧ ∃ xs, H a = some (.lst xs)
  | _, _, _, .fz _, _, h => by simp at h
  | _, _, _, .own h1 h2 hs, a, h => by
    rcases List.mem_cons.mp h with e | h
    · subst e; exact ⟨h1, _, h2⟩
    · exact RTs.mem hs a h
  | _, _, _, .tup _ hs, a, h => RTs.mem hs a h
theorem RTs.mem {K : PySem.W.Frag} {F H : Hp} : ∀ {vs : List V} {ts : List T} {fp : List Addr}, RTs K F H vs ts fp → ∀ a ∈ fp, F a = none ∧ ∃ xs, H a = some (.lst xs)
  | _, _, _, .nil, _, h => by simp at h
  | _, _, _, .cons h hs, a, k => by
    rcases List.mem_append.mp k with k | k
    · exact RT.mem h a k
    · exact RTs.mem hs a k
end
/-- the known heap with what a tree holds -/
def addF (F H : Hp) (fp : List Addr) : Hp := fun a => if a ∈ fp then H a else F a
section
variable {K : PySem.W.Frag} {F F' H H' : Hp}
theorem addF_in {fp : List Addr} {a : Addr} (h : a ∈ fp) : addF F H fp a = H a := if_pos h
theorem addF_out {fp : List Addr} {a : Addr} (h : a ∉ fp) : addF F H fp a = F a := if_neg h
theorem addF_same {fp : List Addr} (h : ∀ a ∈ fp, F a = none) : Same F (addF F H fp) := fun a o e => by
  have : a ∉ fp := fun m => by rw [h a m] at e; cases e
  rw [addF_out this]; exact e
theorem addF_le {fp : List Addr} (s : Same F H) : Same (addF F H fp) H := fun a o e => by
  by_cases m : a ∈ fp
  · rw [addF_in m] at e; exact e
  · rw [addF_out m] at e; exact s _ _ e
theorem RT.toH {v : V} {t : T} {fp : List Addr} (s : Same F H) (h : RT K F H v t fp) : RP K H v t.er := h.frz s fun _ _ => rfl
theorem RTs.toH {vs : List V} {ts : List T} {fp : List Addr} (s : Same F H) (h : RTs K F H vs ts fp) : RPs K H vs (ers ts) := h.frz s fun _ _ => rfl
theorem ers_len : ∀ ts : List T, (ers ts).length = ts.length
  | [] => rfl
  | _ :: ts => by simp [ers, ers_len ts]
theorem ers_fz : ∀ ds : List D, ers (ds.map .fz) = ds
  | [] => rfl
  | d :: ds => by simp [ers, T.er, ers_fz ds]
theorem ers_app : ∀ ts us : List T, ers (ts ++ us) = ers ts ++ ers us
  | [], _ => rfl
  | t :: ts, us => by simp [ers, ers_app ts us]
theorem ers_get : ∀ (ts : List T) (i : Nat), (ers ts)[i]? = (ts[i]?).map T.er
  | [], _ => by simp [ers]
  | t :: ts, 0 => by simp [ers]
  | t :: ts, i + 1 => by simp [ers, ers_get ts i]
theorem er_ol (ds : List D) : (ol ds).er = .lst ds := by simp [ol, T.er, ers_fz]
theorem kids_ol (ds : List D) : (ol ds).kids = ol ds := by simp [ol, T.kids, ers_fz]

/-! ### the frame -/
/-- the slots; L: what stands in locked slots -/
inductive RE (K : PySem.W.Frag) (F H : Hp) (L : List Addr) : List (Option V) → Env → List Addr → Prop
  | nil : RE K F H L [] [] []
  | un {o : Option V} {σ : List (Option V)} {e : Env} {fp : List Addr} : RE K F H L σ e fp → RE K F H L (o :: σ) (.un :: e) fp
  | is {v : V} {t : T} {fp : List Addr} {σ : List (Option V)} {e : Env} {fps : List Addr} : RT K F H v t fp → (∀ a ∈ fp, a ∉ L) → RE K F H L σ e fps → RE K F H L (some v :: σ) (.is t :: e) (fp ++ fps)
  | lk {v : V} {t : T} {fp : List Addr} {σ : List (Option V)} {e : Env} {fps : List Addr} : RT K F H v t fp → (∀ a ∈ fp, a ∈ L) → RE K F H L σ e fps → RE K F H L (some v :: σ) (.lk t :: e) (fp ++ fps)
theorem RE.len {L : List Addr} : ∀ {σ : List (Option V)} {e : Env} {fp : List Addr}, RE K F H L σ e fp → σ.length = e.length
  | _, _, _, .nil => rfl
  | _, _, _, .un h => by simp [RE.len h]
  | _, _, _, .is _ _ h => by simp [RE.len h]
  | _, _, _, .lk _ _ h => by simp [RE.len h]
theorem RE.map {L L' : List Addr} {F' H' : Hp} : ∀ {σ : List (Option V)} {e : Env} {fp : List Addr}, RE K F H L σ e fp → (∀ {v t q}, RT K F H v t q → (∀ a ∈ q, a ∈ fp) → RT K F' H' v t q) → (∀ a ∈ fp, a ∈ L ↔ a ∈ L') → RE K F' H' L' σ e fp
  | _, _, _, .nil, _, _ => .nil
  | _, _, _, .un h, k, l => .un (RE.map h k l)
  | _, _, _, .is r q h, k, l => .is (k r fun a ha => List.mem_append_left _ ha) (fun a ha z => q a ha ((l a (List.mem_append_left _ ha)).mpr z)) (RE.map h (fun r hs => k r fun a ha => List.mem_append_right _ (hs a ha)) fun a ha => l a (List.mem_append_right _ ha))
  | _, _, _, .lk r q h, k, l => .lk (k r fun a ha => List.mem_append_left _ ha) (fun a ha => (l a (List.mem_append_left _ ha)).mp (q a ha)) (RE.map h (fun r hs => k r fun a ha => List.mem_append_right _ (hs a ha)) fun a ha => l a (List.mem_append_right _ ha))
theorem RE.frame {L : List Addr} (s : Same F F') {σ : List (Option V)} {e : Env} {fp : List Addr} (h : RE K F H L σ e fp) (k : ∀ a ∈ fp, F' a = none ∧ H' a = H a) : RE K F' H' L σ e fp :=
  h.map (fun r hs => r.frame s fun a ha => k a (hs a ha)) fun _ _ => Iff.rfl
/-- a slot's own: what it holds, where it lies -/
def SlR (K : PySem.W.Frag) (F H : Hp) (L : List Addr) (s : Sl) (o : Option V) (q : List Addr) : Prop := match s with
  | .un => q = []
  | .is t => ∃ v, o = some v ∧ RT K F H v t q ∧ ∀ a ∈ q, a ∉ L
  | .lk t => ∃ v, o = some v ∧ RT K F H v t q ∧ ∀ a ∈ q, a ∈ L
theorem RE.cons {L : List Addr} {s : Sl} {o : Option V} {q : List Addr} {σ : List (Option V)} {e : Env} {fp : List Addr} (h : SlR K F H L s o q) (r : RE K F H L σ e fp) : RE K F H L (o :: σ) (s :: e) (q ++ fp) := by
  cases s with
  | un => cases (show q = [] from h); exact .un r
  | is t => obtain ⟨v, rfl, h1, h2⟩ := h; exact .is h1 h2 r
  | lk t => obtain ⟨v, rfl, h1, h2⟩ := h; exact .lk h1 h2 r
theorem RE.uncons {L : List Addr} {s : Sl} {o : Option V} {σ : List (Option V)} {e : Env} {fp : List Addr} (h : RE K F H L (o :: σ) (s :: e) fp) : ∃ q fps, fp = q ++ fps ∧ SlR K F H L s o q ∧ RE K F H L σ e fps := by
  cases h with
  | un r => exact ⟨[], _, rfl, rfl, r⟩
  | is h1 h2 r => exact ⟨_, _, rfl, ⟨_, rfl, h1, h2⟩, r⟩
  | lk h1 h2 r => exact ⟨_, _, rfl, ⟨_, rfl, h1, h2⟩, r⟩
/-- one slot, and what it is to change it -/
theorem RE.at {L : List Addr} : ∀ {σ : List (Option V)} {e : Env} {fp : List Addr} {i : Nat} {s : Sl}, RE K F H L σ e fp → e[i]? = some s → ∃ o A q B, σ[i]? = some o ∧ fp = A ++ q ++ B ∧ SlR K F H L s o q ∧
    ∀ {F' H' : Hp} {L' : List Addr} {s' : Sl} {o' : Option V} {q' : List Addr}, (∀ {v t q}, RT K F H v t q → (∀ a ∈ q, a ∈ A ++ B) → RT K F' H' v t q) → (∀ a ∈ A ++ B, a ∈ L ↔ a ∈ L') → SlR K F' H' L' s' o' q' → RE K F' H' L' (σ.set i o') (e.set i s') (A ++ q' ++ B)
  | _, _, _, _, _, .nil, h => by simp at h
  | o :: σ, s :: e, fp, 0, _, r, h => by
    simp at h; subst h
    obtain ⟨q, fps, rfl, h1, h2⟩ := r.uncons
    refine ⟨o, [], q, fps, rfl, by simp, h1, fun {F' H' L' s' o' q'} k l c => ?_⟩
    have := RE.cons c (h2.map (fun r hs => k r fun a ha => by simpa using hs a ha) fun a ha => l a (by simpa using ha))
    simpa using this
  | o :: σ, s :: e, fp, i + 1, _, r, h => by
    obtain ⟨q0, fps, rfl, h1, h2⟩ := r.uncons
    obtain ⟨o1, A, q, B, e1, rfl, e3, e4⟩ := RE.at (i := i) h2 (by simpa using h)
    refine ⟨o1, q0 ++ A, q, B, by simpa using e1, by simp, e3, fun {F' H' L' s' o' q'} k l c => ?_⟩
    have c0 : SlR K F' H' L' s o q0 := by
      cases s with
      | un => exact h1
      | is t => obtain ⟨v, a1, a2, a3⟩ := h1; exact ⟨v, a1, k a2 fun a ha => by simp [ha], fun a ha z => a3 a ha ((l a (by simp [ha])).mpr z)⟩
      | lk t => obtain ⟨v, a1, a2, a3⟩ := h1; exact ⟨v, a1, k a2 fun a ha => by simp [ha], fun a ha => (l a (by simp [ha])).mp (a3 a ha)⟩
    have := RE.cons c0 (e4 (fun r hs => k r fun a ha => by
      have := hs a ha
      simp at this ⊢
      rcases this with z | z <;> simp [z]) (fun a ha => l a (by simp at ha ⊢; rcases ha with z | z <;> simp [z])) c)
    simpa [List.append_assoc] using this
theorem RE.slot {L : List Addr} {σ : List (Option V)} {e : Env} {fp : List Addr} {i : Nat} {t : T} (h : RE K F H L σ e fp) (k : slotT e i = some t) : ∃ v q, σ[i]? = some (some v) ∧ RT K F H v t q ∧ ∀ a ∈ q, a ∈ fp := by
  unfold slotT at k
  cases es : e[i]? with
  | none => rw [es] at k; cases k
  | some s =>
    obtain ⟨o, A, q, B, e1, rfl, e3, _⟩ := h.at es
    rw [es] at k
    cases s with
    | un => cases k
    | is u => cases k; obtain ⟨v, rfl, h1, _⟩ := e3; exact ⟨v, q, e1, h1, fun a ha => by simp [ha]⟩
    | lk u => cases k; obtain ⟨v, rfl, h1, _⟩ := e3; exact ⟨v, q, e1, h1, fun a ha => by simp [ha]⟩
theorem slotT_is {e : Env} {i : Nat} {t : T} (h : e[i]? = some (.is t)) : slotT e i = some t := by simp [slotT, h]
theorem slotT_lk {e : Env} {i : Nat} {t : T} (h : e[i]? = some (.lk t)) : slotT e i = some t := by simp [slotT, h]
end

/-! ### the state -/
/-- the entry: its heap, what was known there, what may be changed -/
structure Gh where
  H0 : Hp
  F0 : Hp
  M0 : List Addr
structure Rel (K : PySem.W.Frag) (G : Gh) (L P : List Addr) (e : Env) (F : Hp) (σ : List (Option V)) (H : Hp) : Prop where
  same : Same F H
  env : ∃ fp, RE K F H L σ e fp ∧ (P ++ fp).Nodup ∧ (∀ a ∈ P, a ∉ L) ∧ ∀ a ∈ P ++ fp, F a = none ∧ H a ≠ none ∧ (G.H0 a = none ∨ a ∈ G.M0)
  tups : ∀ a xs, H a = some (.tup xs) → F a = some (.tup xs)
  sub : Same G.F0 F
  new : ∀ a, F a ≠ none → G.F0 a ≠ none ∨ G.H0 a = none ∨ a ∈ G.M0
  frm : ∀ a o, G.H0 a = some o → a ∉ G.M0 → H a = some o
  live : ∀ a, G.H0 a ≠ none → H a ≠ none
  lv : ∀ a ∈ L, H a ≠ none
/-- a place from a value on -/
inductive At (H : Hp) : V → List Nat → V → Prop
  | nil {v : V} : At H v [] v
  | cons {a : Addr} {n : Nat} {ks : List Nat} {xs : List V} {w v : V} : H a = some (.lst xs) → xs[n]? = some w → At H w ks v → At H (.ref a) (n :: ks) v
/-- what a result is -/
def RR (K : PySem.W.Frag) (G : Gh) (L P : List Addr) (σ : List (Option V)) (r : R) (e : Env) (F H : Hp) (v : V) : Prop := match r with
  | .t t => ∃ fp, RT K F H v t fp ∧ Rel K G L (fp ++ P) e F σ H
  | .p i ks => Rel K G L P e F σ H ∧ ∃ v0, σ[i]? = some (some v0) ∧ At H v0 ks v
end Fx

set_option Elab.async false
set_option linter.all false
set_option maxRecDepth 100000
/-! Fx state: the operations on the state's relation. -/
namespace Fx
open PySem PySem.Spec PyProof.Rows L2
theorem inj_lst {H : Hp} {a : Addr} {xs ys : List V} (h : H a = some (.lst xs)) (h' : H a = some (.lst ys)) : xs = ys := by
  rw [h] at h'; cases h'; rfl
theorem inj_tup {H : Hp} {a : Addr} {xs ys : List V} (h : H a = some (.tup xs)) (h' : H a = some (.tup ys)) : xs = ys := by
  rw [h] at h'; cases h'; rfl
mutual
theorem RT.det {K : PySem.W.Frag} {F H : Hp} : ∀ {v : V} {t : T} {fp fq : List Addr}, RT K F H v t fp → RT K F H v t fq → fp = fq
  | _, _, _, _, .fz _, .fz _ => rfl
  | _, _, _, _, .own h1 h2 h3, .own k1 k2 k3 => by
    have e := inj_lst h2 k2
    subst e
    rw [RTs.det h3 k3]
  | _, _, _, _, .tup h2 h3, .tup k2 k3 => by
    have e := inj_tup h2 k2
    subst e
    rw [RTs.det h3 k3]
theorem RTs.det {K : PySem.W.Frag} {F H : Hp} : ∀ {vs : List V} {ts : List T} {fp fq : List Addr}, RTs K F H vs ts fp → RTs K F H vs ts fq → fp = fq
  | _, _, _, _, .nil, .nil => rfl
  | _, _, _, _, .cons h hs, .cons k ks => by rw [RT.det h k, RTs.det hs ks]
end
theorem nd_perm {l l' : List Addr} (p : l.Perm l') (h : l.Nodup) : l'.Nodup := p.nodup_iff.mp h
theorem nd_sub {l l' : List Addr} (p : l'.Sublist l) (h : l.Nodup) : l'.Nodup := h.sublist p
section
variable {K : PySem.W.Frag} {G : Gh} {L P P' : List Addr} {e e' : Env} {F F' H H' : Hp} {σ σ' : List (Option V)} {v : V} {t : T} {fp : List Addr}
theorem Rel.perm (R : Rel K G L P e F σ H) (p : P.Perm P') : Rel K G L P' e F σ H := by
  obtain ⟨fp, h1, h2, h4, h3⟩ := R.env
  refine ⟨R.same, ⟨fp, h1, nd_perm (p.append_right fp) h2, fun a ha => h4 a (p.mem_iff.mpr ha), fun a ha => h3 a ?_⟩, R.tups, R.sub, R.new, R.frm, R.live, R.lv⟩
  simp at ha ⊢
  rcases ha with z | z
  · exact .inl (p.mem_iff.mpr z)
  · exact .inr z
/-- a temporary is let go -/
theorem Rel.drop {Q : List Addr} (R : Rel K G L (Q ++ P) e F σ H) : Rel K G L P e F σ H := by
  obtain ⟨fp, h1, h2, h4, h3⟩ := R.env
  refine ⟨R.same, ⟨fp, h1, nd_sub (l := Q ++ P ++ fp) ?_ h2, fun a ha => h4 a (by simp [ha]), fun a ha => h3 a (by simp at ha ⊢; rcases ha with z | z <;> simp [z])⟩, R.tups, R.sub, R.new, R.frm, R.live, R.lv⟩
  rw [List.append_assoc]
  exact List.sublist_append_right _ _
/-- down a place -/
theorem RT.down : ∀ {ks : List Nat} {v0 v : V} {t u : T} {q : List Addr}, RT K F H v0 t q → getP t ks = some u → At H v0 ks v → ∃ A q' B, q = A ++ q' ++ B ∧ RT K F H v u q' ∧
    ∀ {F' H' : Hp} {u' t' : T} {q2 : List Addr}, setP t ks u' = some t' → (∀ {v t fp}, RT K F H v t fp → (∀ a ∈ fp, a ∈ A ++ B) → RT K F' H' v t fp) → (∀ a ∈ A ++ B, F' a = none ∧ H' a = H a) → RT K F' H' v u' q2 → RT K F' H' v0 t' (A ++ q2 ++ B)
  | [], _, _, _, _, q, r, h, .nil => by
    simp [getP] at h; subst h
    refine ⟨[], q, [], by simp, r, fun {F' H' u' t' q2} h2 _ _ r2 => ?_⟩
    simp [setP] at h2; subst h2
    simpa using r2
  | n :: ks, _, v, _, u, _, .own (a := a) (xs := xs) (ts := ts) (fp := fp) h1 h2 hs, h, .cons (w := w) k1 k2 k3 => by
    have ex := inj_lst h2 k1
    subst ex
    simp only [getP] at h
    cases et : ts[n]? with
    | none => rw [et] at h; cases h
    | some t1 =>
      rw [et] at h
      obtain ⟨w', A, q, B, e1, e2, e3, e4⟩ := hs.at et
      have ew : w' = w := Option.some.inj (e1.symm.trans k2)
      subst ew
      obtain ⟨A', q', B', f1, f2, f3⟩ := RT.down e3 h k3
      refine ⟨a :: (A ++ A'), q', B' ++ B, by simp [e2, f1], f2, fun {F' H' u' t' q2} hset fr fh r2 => ?_⟩
      simp only [setP, et] at hset
      cases es : setP t1 ks u' with
      | none => rw [es] at hset; cases hset
      | some t2 =>
        rw [es] at hset
        cases hset
        have ra := f3 es (fun r hs => fr r fun a ha => by
          have := hs a ha
          simp at this ⊢
          rcases this with z | z <;> simp [z]) (fun a ha => fh a (by simp at ha ⊢; rcases ha with z | z <;> simp [z])) r2
        have hx := fh a (by simp)
        have hw : (xs.set n w') = xs := by
          apply List.ext_getElem?
          intro i
          by_cases hi : i = n
          · subst hi
            have hlt : i < xs.length := (List.getElem?_eq_some_iff.mp e1).1
            rw [List.getElem?_set_self hlt, e1]
          · rw [List.getElem?_set_ne (Ne.symm hi)]
        have rs := e4 (F' := F') (H' := H') (fun r hs => fr r fun a ha => by
          have := hs a ha
          simp at this ⊢
          rcases this with z | z <;> simp [z]) ra
        rw [hw] at rs
        have := RT.own (hx.1) (hx.2.trans h2) rs
        simpa [List.append_assoc] using this
  | _ :: _, _, _, _, _, _, .fz _, h, _ => by simp [getP] at h
  | _ :: _, _, _, _, _, _, .tup _ _, h, _ => by simp [getP] at h
/-- reading -/
theorem RR.rd {r : R} {d : D} (R : RR K G L P σ r e F H v) (h : rd e r = some d) : RP K H v d := by
  cases r with
  | t x =>
    obtain ⟨fp, h1, h2⟩ := R
    simp [Fx.rd] at h; subst h
    exact h1.toH h2.same
  | p i ks =>
    obtain ⟨h1, v0, e0, hat⟩ := R
    simp only [Fx.rd] at h
    cases es : slotT e i with
    | none => rw [es] at h; cases h
    | some t =>
      rw [es] at h
      cases eg : getP t ks with
      | none => simp [eg] at h
      | some u =>
        simp [eg] at h; subst h
        obtain ⟨gp, g1, _⟩ := h1.env
        obtain ⟨w, q, w1, w2, _⟩ := g1.slot es
        rw [e0] at w1; cases w1
        obtain ⟨_, q', _, _, r', _⟩ := w2.down eg hat
        exact r'.toH h1.same
theorem RR.rel {r : R} (R : RR K G L P σ r e F H v) : ∃ Q, Rel K G L (Q ++ P) e F σ H := by
  cases r with
  | t x => obtain ⟨fp, _, h2⟩ := R; exact ⟨fp, h2⟩
  | p i ks => exact ⟨[], R.1⟩
theorem RR.rel' {r : R} (R : RR K G L P σ r e F H v) : Rel K G L P e F σ H := by
  obtain ⟨Q, h⟩ := R.rel
  exact h.drop
/-- the known heap grows by a temporary -/
theorem Rel.grow {Q : List Addr} (R : Rel K G L (Q ++ P) e F σ H) : Rel K G L P e (addF F H Q) σ H := by
  obtain ⟨fp, g1, g2, g4, g3⟩ := R.env
  have hq : ∀ a ∈ Q, F a = none := fun a ha => (g3 a (by simp [ha])).1
  have s := addF_same (H := H) hq
  have nd : (Q ++ (P ++ fp)).Nodup := by simpa [List.append_assoc] using g2
  have hfg : ∀ a, a ∈ P ++ fp → a ∉ Q := fun a ha hQ => (List.nodup_append.mp nd).2.2 a hQ a ha rfl
  refine ⟨addF_le R.same, ⟨fp, g1.frame s fun a ha => ?_, (List.nodup_append.mp nd).2.1, fun a ha => g4 a (by simp [ha]), fun a ha => ?_⟩, fun a xs h => s _ _ (R.tups a xs h), R.sub.trans s, fun a ha => ?_, R.frm, R.live, R.lv⟩
  · exact ⟨by rw [addF_out (hfg a (by simp [ha]))]; exact (g3 a (by simp [ha])).1, rfl⟩
  · have := g3 a (by simp at ha ⊢; rcases ha with z | z <;> simp [z])
    exact ⟨by rw [addF_out (hfg a ha)]; exact this.1, this.2⟩
  · by_cases m : a ∈ Q
    · rcases (g3 a (by simp [m])).2.2 with z | z
      · exact .inr (.inl z)
      · exact .inr (.inr z)
    · rw [addF_out m] at ha; exact R.new a ha
/-- a temporary is frozen -/
theorem Rel.frz (R : Rel K G L (fp ++ P) e F σ H) (h : RT K F H v t fp) : ∃ F', Same F F' ∧ RP K F' v t.er ∧ Rel K G L P e F' σ H := by
  obtain ⟨gp, g1, g2, g4, g3⟩ := R.env
  have s := addF_same (F := F) (H := H) (fp := fp) fun a ha => (g3 a (by simp [ha])).1
  exact ⟨addF F H fp, s, h.frz s fun a ha => addF_in ha, R.grow⟩
theorem Rel.frzs {vs : List V} {ts : List T} (R : Rel K G L (fp ++ P) e F σ H) (h : RTs K F H vs ts fp) : ∃ F', Same F F' ∧ RPs K F' vs (ers ts) ∧ Rel K G L P e F' σ H := by
  obtain ⟨gp, g1, g2, g4, g3⟩ := R.env
  have s := addF_same (F := F) (H := H) (fp := fp) fun a ha => (g3 a (by simp [ha])).1
  exact ⟨addF F H fp, s, h.frz s fun a ha => addF_in ha, R.grow⟩
/-- a slot's tree is changed: A, B as RE.at says -/
theorem Rel.chg {A q B q' : List Addr} {i : Nat} {s' : Sl} {o' : Option V} (R : Rel K G L P e F σ H) {fp : List Addr} (hfp : fp = A ++ q ++ B)
    (hnd : (P ++ fp).Nodup) (hL : ∀ a ∈ P, a ∉ L) (hall : ∀ a ∈ P ++ fp, F a = none ∧ H a ≠ none ∧ (G.H0 a = none ∨ a ∈ G.M0))
    (hs : Same F F') (hsame : Same F' H') (hre : RE K F' H' L (σ.set i o') (e.set i s') (A ++ q' ++ B)) (hq' : q'.Nodup) (hd : ∀ a ∈ q', a ∉ P ++ (A ++ B)) (hqa : ∀ a ∈ q', F' a = none ∧ H' a ≠ none ∧ (G.H0 a = none ∨ a ∈ G.M0))
    (hrest : ∀ a ∈ P ++ (A ++ B), F' a = none ∧ H' a ≠ none) (htup : ∀ a xs, H' a = some (.tup xs) → F' a = some (.tup xs)) (hnew : ∀ a, F' a ≠ none → F a ≠ none ∨ G.H0 a = none ∨ a ∈ G.M0)
    (hfrm : ∀ a o, G.H0 a = some o → a ∉ G.M0 → H' a = some o) (hlive : ∀ a, H a ≠ none → H' a ≠ none) : Rel K G L P (e.set i s') F' (σ.set i o') H' := by
  subst hfp
  refine ⟨hsame, ⟨A ++ q' ++ B, hre, ?_, hL, fun a ha => ?_⟩, htup, R.sub.trans hs, fun a ha => ?_, hfrm, fun a ha => hlive a (R.live a ha), fun a ha => hlive a (R.lv a ha)⟩
  · have p1 : (P ++ (A ++ q' ++ B)).Perm (q' ++ (P ++ (A ++ B))) := by
      have : (P ++ (A ++ q' ++ B)) = (P ++ A) ++ (q' ++ B) := by simp
      rw [this]
      refine (List.perm_append_comm_assoc _ _ _).trans ?_
      simp
    refine nd_perm p1.symm (List.nodup_append.mpr ⟨hq', ?_, fun a ha b hb e => hd a ha (e ▸ hb)⟩)
    refine nd_sub ?_ hnd
    exact List.Sublist.append (List.Sublist.refl P) (List.Sublist.append (List.sublist_append_left A q) (List.Sublist.refl B))
  · by_cases m : a ∈ q'
    · exact hqa a m
    · have : a ∈ P ++ (A ++ B) := by simp at ha ⊢; rcases ha with z | z | z | z <;> simp_all
      refine ⟨(hrest a this).1, (hrest a this).2, (hall a ?_).2.2⟩
      simp at this ⊢; rcases this with z | z | z <;> simp [z]
  · rcases hnew a ha with z | z
    · exact R.new a z
    · exact .inr z
/-- taken to be kept -/
theorem RR.mv {r : R} (R : RR K G L P σ r e F H v) (h : mv r e = some (t, e')) : ∃ F' fp, Same F F' ∧ RT K F' H v t fp ∧ Rel K G L (fp ++ P) e' F' σ H := by
  cases r with
  | t x =>
    obtain ⟨fp, h1, h2⟩ := R
    simp [Fx.mv] at h
    obtain ⟨rfl, rfl⟩ := h
    exact ⟨F, fp, Same.refl F, h1, h2⟩
  | p i ks =>
    obtain ⟨R, v0, e0, hat⟩ := R
    simp only [Fx.mv] at h
    obtain ⟨gp, g1, g2, g4, g3⟩ := R.env
    cases es : e[i]? with
    | none => rw [es] at h; cases h
    | some s =>
      rw [es] at h
      cases s with
      | un => cases h
      | lk t0 =>
        simp only at h
        cases eg : getP t0 ks with
        | none => rw [eg] at h; cases h
        | some u =>
          rw [eg] at h
          cases u with
          | fz d =>
            simp at h
            obtain ⟨rfl, rfl⟩ := h
            obtain ⟨w, q, w1, w2, _⟩ := g1.slot (slotT_lk es)
            rw [e0] at w1; cases w1
            obtain ⟨_, q', _, _, r', _⟩ := w2.down eg hat
            cases r' with
            | fz z => exact ⟨F, [], Same.refl F, .fz z, R⟩
          | own _ => cases h
          | ownd _ => cases h
          | tup _ => cases h
      | is t0 =>
        simp only at h
        obtain ⟨o, A, q, B, a1, rfl, a3, a4⟩ := g1.at es
        obtain ⟨w, rfl, w2, w3⟩ := a3
        rw [e0] at a1; cases a1
        have key : ∀ u : T, getP t0 ks = some u → (∀ t', setP t0 ks (.fz u.er) = some t' → ∃ F', Same F F' ∧ RP K F' v u.er ∧ Rel K G L P (e.set i (.is t')) F' σ H) := fun u eg t' es' => by
          obtain ⟨A', q', B', b1, b2, b3⟩ := w2.down eg hat
          have hq : ∀ a ∈ q', F a = none := fun a ha => (g3 a (by simp [b1, ha])).1
          have s := addF_same (H := H) hq
          have nd : (q' ++ (P ++ (A ++ A' ++ B' ++ B))).Nodup := by
            subst b1
            refine nd_perm ?_ g2
            have : (P ++ (A ++ (A' ++ q' ++ B') ++ B)) = (P ++ A ++ A') ++ (q' ++ (B' ++ B)) := by simp
            rw [this]
            refine (List.perm_append_comm_assoc _ _ _).trans ?_
            simp
          have out : ∀ a ∈ P ++ (A ++ A' ++ B' ++ B), a ∉ q' := fun a ha hq => (List.nodup_append.mp nd).2.2 a hq a ha rfl
          have hold : ∀ a ∈ P ++ (A ++ A' ++ B' ++ B), addF F H q' a = none ∧ H a ≠ none := fun a ha => by
            have := g3 a (by subst b1; simp at ha ⊢; rcases ha with z | z | z | z | z <;> simp [z])
            exact ⟨by rw [addF_out (out a ha)]; exact this.1, this.2.1⟩
          have rz : RP K (addF F H q') v u.er := b2.frz s fun a ha => addF_in ha
          have rt := b3 (F' := addF F H q') (H' := H) es' (fun r hs => r.frame s fun a ha => ⟨(hold a (by have := hs a ha; simp at this ⊢; rcases this with z | z <;> simp [z])).1, rfl⟩)
            (fun a ha => ⟨(hold a (by simp at ha ⊢; rcases ha with z | z <;> simp [z])).1, rfl⟩) (.fz rz)
          have rt' : RT K (addF F H q') H v0 t' (A' ++ B') := by simpa using rt
          have hset : σ.set i (some v0) = σ := by
            apply List.ext_getElem?
            intro j
            by_cases hj : j = i
            · subst hj
              have hlt : j < σ.length := (List.getElem?_eq_some_iff.mp e0).1
              rw [List.getElem?_set_self hlt, e0]
            · rw [List.getElem?_set_ne (Ne.symm hj)]
          have re := a4 (F' := addF F H q') (H' := H) (L' := L) (s' := .is t') (o' := some v0) (q' := A' ++ B') (fun r hs => r.frame s fun a ha => ⟨(hold a (by have := hs a ha; simp at this ⊢; rcases this with z | z <;> simp [z])).1, rfl⟩)
            (fun _ _ => Iff.rfl) ⟨v0, rfl, rt', fun a ha => w3 a (by subst b1; simp at ha ⊢; rcases ha with z | z <;> simp [z])⟩
          have nd2 := nd_sub (l' := A' ++ B') (by
            subst b1
            refine List.Sublist.trans ?_ (List.sublist_append_right P _)
            refine List.Sublist.trans ?_ (List.sublist_append_left _ B)
            refine List.Sublist.trans ?_ (List.sublist_append_right A _)
            exact List.Sublist.append (List.sublist_append_left A' q') (List.Sublist.refl B')) g2
          have disj : ∀ a ∈ A' ++ B', a ∉ P ++ (A ++ B) := fun a ha hb => by
            have nd3 : ((A' ++ B') ++ (P ++ (A ++ B))).Nodup := by
              refine nd_perm ?_ (List.nodup_append.mp nd).2.1
              have : (P ++ (A ++ A' ++ B' ++ B)) = (P ++ A) ++ ((A' ++ B') ++ B) := by simp
              rw [this]
              refine (List.perm_append_comm_assoc _ _ _).trans ?_
              simp
            exact (List.nodup_append.mp nd3).2.2 a ha a hb rfl
          have := R.chg (i := i) (s' := .is t') (o' := some v0) rfl g2 g4 g3 s (addF_le R.same) re nd2 disj
            (fun a ha => ⟨(hold a (by simp at ha ⊢; rcases ha with z | z <;> simp [z])).1, (hold a (by simp at ha ⊢; rcases ha with z | z <;> simp [z])).2, (g3 a (by subst b1; simp at ha ⊢; rcases ha with z | z <;> simp [z])).2.2⟩)
            (fun a ha => hold a (by simp at ha ⊢; rcases ha with z | z | z <;> simp [z])) (fun a xs h => s _ _ (R.tups a xs h))
            (fun a ha => by
              by_cases m : a ∈ q'
              · exact .inr ((g3 a (by subst b1; simp [m])).2.2)
              · rw [addF_out m] at ha; exact .inl ha) R.frm (fun _ h => h)
          rw [hset] at this
          exact ⟨_, s, rz, this⟩
        cases eg : getP t0 ks with
        | none => rw [eg] at h; cases h
        | some u =>
          rw [eg] at h
          have gen : ∀ u, getP t0 ks = some u → (match setP t0 ks (.fz u.er) with | some t' => some (T.fz u.er, e.set i (.is t')) | none => none) = some (t, e') → ∃ F' fp, Same F F' ∧ RT K F' H v t fp ∧ Rel K G L (fp ++ P) e' F' σ H := fun u eg h => by
            cases es' : setP t0 ks (.fz u.er) with
            | none => rw [es'] at h; cases h
            | some t' =>
              rw [es'] at h
              simp at h
              obtain ⟨rfl, rfl⟩ := h
              obtain ⟨F', s, rz, R'⟩ := key u eg t' es'
              exact ⟨F', [], s, .fz rz, R'⟩
          cases u with
          | fz d =>
            simp at h
            obtain ⟨rfl, rfl⟩ := h
            obtain ⟨_, q', _, _, r', _⟩ := w2.down eg hat
            cases r' with
            | fz z => exact ⟨F, [], Same.refl F, .fz z, R⟩
          | own x => exact gen _ eg h
          | ownd x => exact gen _ eg h
          | tup x => exact gen _ eg h
theorem RR.mvF {r : R} {d : D} (R : RR K G L P σ r e F H v) (h : mvF r e = some (d, e')) : ∃ F', Same F F' ∧ RP K F' v d ∧ Rel K G L P e' F' σ H := by
  unfold Fx.mvF at h
  cases em : Fx.mv r e with
  | none => rw [em] at h; cases h
  | some p =>
    obtain ⟨t, e1⟩ := p
    rw [em] at h
    simp at h
    obtain ⟨rfl, rfl⟩ := h
    obtain ⟨F1, fp, s1, r1, R1⟩ := R.mv em
    obtain ⟨F2, s2, r2, R2⟩ := R1.frz r1
    exact ⟨F2, s1.trans s2, r2, R2⟩
/-- stored in a slot that is not locked -/
theorem Rel.asg {i : Nat} {s : Sl} (R : Rel K G L (fp ++ P) e F σ H) (h : RT K F H v t fp) (es : e[i]? = some s) (hs : ∀ u, s ≠ .lk u) : Rel K G L P (e.set i (.is t)) F (σ.set i (some v)) H := by
  obtain ⟨gp, g1, g2, g4, g3⟩ := R.env
  obtain ⟨o, A, q, B, a1, rfl, a3, a4⟩ := g1.at es
  have re := a4 (F' := F) (H' := H) (L' := L) (s' := .is t) (o' := some v) (q' := fp) (fun r _ => r) (fun _ _ => Iff.rfl) ⟨v, rfl, h, fun a ha => g4 a (by simp [ha])⟩
  have nd : (fp ++ (P ++ (A ++ q ++ B))).Nodup := by simpa [List.append_assoc] using g2
  refine R.drop.chg (fp := A ++ q ++ B) rfl (List.nodup_append.mp nd).2.1 (fun a ha => g4 a (by simp [ha])) (fun a ha => g3 a (by simp at ha ⊢; rcases ha with z | z | z | z <;> simp [z])) (Same.refl F) R.same re (List.nodup_append.mp nd).1
    (fun a ha hb => (List.nodup_append.mp nd).2.2 a ha a (by simp at hb ⊢; rcases hb with z | z | z <;> simp [z]) rfl) (fun a ha => g3 a (by simp [ha]))
    (fun a ha => ⟨(g3 a (by simp at ha ⊢; rcases ha with z | z | z <;> simp [z])).1, (g3 a (by simp at ha ⊢; rcases ha with z | z | z <;> simp [z])).2.1⟩) R.tups (fun a ha => .inl ha) R.frm (fun _ h => h)
/-- a slot is forgotten -/
theorem Rel.wipe {i : Nat} {s : Sl} {o : Option V} (R : Rel K G L P e F σ H) (es : e[i]? = some s) : Rel K G L P (e.set i .un) F (σ.set i o) H := by
  obtain ⟨gp, g1, g2, g4, g3⟩ := R.env
  obtain ⟨o1, A, q, B, a1, rfl, a3, a4⟩ := g1.at es
  have re := a4 (F' := F) (H' := H) (L' := L) (s' := .un) (o' := o) (q' := []) (fun r _ => r) (fun _ _ => Iff.rfl) rfl
  exact R.chg (fp := A ++ q ++ B) rfl g2 g4 g3 (Same.refl F) R.same re (by simp) (by simp) (by simp) (fun a ha => ⟨(g3 a (by simp at ha ⊢; rcases ha with z | z | z <;> simp [z])).1, (g3 a (by simp at ha ⊢; rcases ha with z | z | z <;> simp [z])).2.1⟩)
    R.tups (fun a ha => .inl ha) R.frm (fun _ h => h)
/-- a new tuple is known at once -/
theorem Rel.tup {p : Addr} {xs : List V} (R : Rel K G L P e F σ H) (hp : H p = none) : Rel K G L P e (upd F p (.tup xs)) σ (upd H p (.tup xs)) ∧ Same F (upd F p (.tup xs)) ∧ ∀ a, H a ≠ none → upd H p (.tup xs) a = H a ∧ upd F p (.tup xs) a = F a := by
  obtain ⟨gp, g1, g2, g4, g3⟩ := R.env
  have fpn : F p = none := by
    cases e1 : F p with
    | none => rfl
    | some o => rw [R.same _ _ e1] at hp; cases hp
  have s : Same F (upd F p (.tup xs)) := fun a o e1 => by rw [upd_ne (ne_of_none e1 fpn)]; exact e1
  have ne : ∀ a, H a ≠ none → a ≠ p := fun a ha z => ha (by rw [z]; exact hp)
  have keep : ∀ a, H a ≠ none → upd H p (.tup xs) a = H a ∧ upd F p (.tup xs) a = F a := fun a ha => ⟨upd_ne (ne a ha), upd_ne (ne a ha)⟩
  refine ⟨⟨fun a o e1 => ?_, ⟨gp, g1.frame s fun a ha => ?_, g2, g4, fun a ha => ?_⟩, fun a ys e1 => ?_, R.sub.trans s, fun a ha => ?_, fun a o e1 e2 => ?_, fun a ha => ?_, fun a ha => by rw [(keep a (R.lv a ha)).1]; exact R.lv a ha⟩, s, keep⟩
  · by_cases z : a = p
    · subst z; rw [upd_same] at e1 ⊢; exact e1
    · rw [upd_ne z] at e1 ⊢; exact R.same _ _ e1
  · have := g3 a (by simp [ha])
    exact ⟨by rw [(keep a this.2.1).2]; exact this.1, (keep a this.2.1).1⟩
  · have := g3 a ha
    exact ⟨by rw [(keep a this.2.1).2]; exact this.1, by rw [(keep a this.2.1).1]; exact this.2.1, this.2.2⟩
  · by_cases z : a = p
    · subst z; rw [upd_same] at e1 ⊢; exact e1
    · rw [upd_ne z] at e1 ⊢; exact R.tups _ _ e1
  · by_cases z : a = p
    · subst z
      refine .inr (.inl ?_)
      cases e1 : G.H0 a with
      | none => rfl
      | some o => exact absurd hp (R.live a (by rw [e1]; simp))
    · rw [upd_ne z] at ha; exact R.new a ha
  · have h1 := R.frm a o e1 e2
    rw [(keep a (by rw [h1]; simp)).1]; exact h1
  · rw [(keep a (R.live a ha)).1]; exact R.live a ha
/-- a new list is a temporary -/
theorem Rel.lst {p : Addr} {xs : List V} (R : Rel K G L P e F σ H) (hp : H p = none) : Rel K G L (p :: P) e F σ (upd H p (.lst xs)) ∧ F p = none ∧ (∀ a, H a ≠ none → upd H p (.lst xs) a = H a) ∧ p ∉ L := by
  obtain ⟨gp, g1, g2, g4, g3⟩ := R.env
  have fpn : F p = none := by
    cases e1 : F p with
    | none => rfl
    | some o => rw [R.same _ _ e1] at hp; cases hp
  have ne : ∀ a, H a ≠ none → a ≠ p := fun a ha z => ha (by rw [z]; exact hp)
  have keep : ∀ a, H a ≠ none → upd H p (.lst xs) a = H a := fun a ha => upd_ne (ne a ha)
  have hH0 : G.H0 p = none := by
    cases e1 : G.H0 p with
    | none => rfl
    | some o => exact absurd hp (R.live p (by rw [e1]; simp))
  have pL : p ∉ L := fun z => R.lv p z hp
  refine ⟨⟨fun a o e1 => ?_, ⟨gp, g1.frame (Same.refl F) fun a ha => ?_, ?_, fun a ha => ?_, fun a ha => ?_⟩, fun a ys e1 => ?_, R.sub, R.new, fun a o e1 e2 => ?_, fun a ha => ?_, fun a ha => by rw [keep a (R.lv a ha)]; exact R.lv a ha⟩, fpn, keep, pL⟩
  · rw [upd_ne (ne_of_none e1 fpn)]; exact R.same _ _ e1
  · have := g3 a (by simp [ha])
    exact ⟨this.1, keep a this.2.1⟩
  · rw [List.cons_append]
    exact List.nodup_cons.mpr ⟨fun z => (g3 p z).2.1 hp, g2⟩
  · rcases List.mem_cons.mp ha with z | z
    · rw [z]; exact pL
    · exact g4 a z
  · rw [List.cons_append] at ha
    rcases List.mem_cons.mp ha with z | z
    · subst z; exact ⟨fpn, by rw [upd_same]; simp, .inl hH0⟩
    · have := g3 a z
      exact ⟨this.1, by rw [keep a this.2.1]; exact this.2.1, this.2.2⟩
  · by_cases z : a = p
    · subst z; rw [upd_same] at e1; cases e1
    · rw [upd_ne z] at e1; exact R.tups _ _ e1
  · have h1 := R.frm a o e1 e2
    rw [keep a (by rw [h1]; simp)]; exact h1
  · rw [keep a (R.live a ha)]; exact R.live a ha
end
end Fx

set_option Elab.async false
set_option linter.all false
set_option maxRecDepth 100000
/-! Fx pending results: lists of results, read, kept, frozen. -/
namespace Fx
open PySem PySem.Spec PyProof.Rows L2
inductive Pd (K : PySem.W.Frag) (F H : Hp) (σ : List (Option V)) : List R → List V → List Addr → Prop
  | nil : Pd K F H σ [] [] []
  | t {v : V} {t : T} {fp : List Addr} {rs : List R} {vs : List V} {fps : List Addr} : RT K F H v t fp → Pd K F H σ rs vs fps → Pd K F H σ (.t t :: rs) (v :: vs) (fp ++ fps)
  | p {v : V} {i : Nat} {rs : List R} {vs : List V} {fps : List Addr} : σ[i]? = some (some v) → Pd K F H σ rs vs fps → Pd K F H σ (.p i [] :: rs) (v :: vs) fps
/-- settled: no place within a tree -/
def R.stl : R → Prop
  | .p _ (_ :: _) => False
  | _ => True
section
variable {K : PySem.W.Frag} {G : Gh} {L P P' : List Addr} {e e' : Env} {F F' H H' : Hp} {σ σ' : List (Option V)} {v : V} {t : T} {fp fps : List Addr} {rs : List R} {vs : List V}
theorem Pd.frame (s : Same F F') : ∀ {rs : List R} {vs : List V} {fps : List Addr}, Pd K F H σ rs vs fps → (∀ a ∈ fps, F' a = none ∧ H' a = H a) → Pd K F' H' σ rs vs fps
  | _, _, _, .nil, _ => .nil
  | _, _, _, .t r h, k => .t (r.frame s fun a ha => k a (List.mem_append_left _ ha)) (Pd.frame s h fun a ha => k a (List.mem_append_right _ ha))
  | _, _, _, .p q h, k => .p q (Pd.frame s h k)
theorem Pd.app : ∀ {rs qs : List R} {vs ws : List V} {fp fq : List Addr}, Pd K F H σ rs vs fp → Pd K F H σ qs ws fq → Pd K F H σ (rs ++ qs) (vs ++ ws) (fp ++ fq)
  | _, _, _, _, _, _, .nil, h => h
  | _, _, _, _, _, _, .t r h, k => by simpa [List.append_assoc] using Pd.t r (Pd.app h k)
  | _, _, _, _, _, _, .p q h, k => Pd.p q (Pd.app h k)
def RRs (K : PySem.W.Frag) (G : Gh) (L P : List Addr) (σ : List (Option V)) (rs : List R) (e : Env) (F H : Hp) (vs : List V) : Prop := ∃ fps, Pd K F H σ rs vs fps ∧ Rel K G L (fps ++ P) e F σ H
theorem RRs.nil (R : Rel K G L P e F σ H) : RRs K G L P σ [] e F H [] := ⟨[], .nil, R⟩
theorem Rel.outP (R : Rel K G L P e F σ H) : ∀ a ∈ P, F a = none ∧ H a ≠ none := fun a ha => by
  obtain ⟨gp, _, _, _, g3⟩ := R.env
  exact ⟨(g3 a (by simp [ha])).1, (g3 a (by simp [ha])).2.1⟩
theorem RR.one {r : R} (R : RR K G L P σ r e F H v) (h : r.stl) : RRs K G L P σ [r] e F H [v] := by
  cases r with
  | t x =>
    obtain ⟨fp, h1, h2⟩ := R
    exact ⟨fp ++ [], .t h1 .nil, by simpa using h2⟩
  | p i ks =>
    cases ks with
    | nil =>
      obtain ⟨h1, v0, e0, hat⟩ := R
      cases hat
      exact ⟨[], .p e0 .nil, h1⟩
    | cons _ _ => exact h.elim
theorem RRs.toRR {r : R} (R : RRs K G L P σ [r] e F H [v]) : RR K G L P σ r e F H v := by
  obtain ⟨fps, h, R⟩ := R
  cases h with
  | t r h => cases h; exact ⟨_, r, by simpa using R⟩
  | p q h => cases h; exact ⟨R, _, q, .nil⟩
/-- the head, the rest being protected -/
theorem RRs.head {r : R} (R : RRs K G L P σ (r :: rs) e F H (v :: vs)) : ∃ fps, Pd K F H σ rs vs fps ∧ RR K G L (fps ++ P) σ r e F H v := by
  obtain ⟨fp, h, R⟩ := R
  cases h with
  | t r h => exact ⟨_, h, _, r, by simpa [List.append_assoc] using R⟩
  | p q h => exact ⟨_, h, R, _, q, .nil⟩
/-- results behind a head that is kept: P1 holds the head's -/
theorem Pd.onto {Q : List Addr} (h : Pd K F H σ rs vs fps) (R : Rel K G L (Q ++ (fps ++ P)) e' F' σ H') (s : Same F F') (k : ∀ a ∈ fps, H' a = H a) : RRs K G L (Q ++ P) σ rs e' F' H' vs := by
  refine ⟨fps, h.frame s fun a ha => ⟨(R.outP a (by simp [ha])).1, k a ha⟩, R.perm ?_⟩
  exact List.perm_append_comm_assoc _ _ _
theorem RRs.cons {r : R} (hr : RR K G L P σ r e F H v) (hl : r.stl) {Q : List Addr} (hQ : ∀ fp, (∀ t, r = .t t → RT K F H v t fp → Q = fp) ∧ ((∃ i, r = .p i []) → Q = []))
    (h : RRs K G L (Q ++ P) σ rs e' F' H' vs) (s : Same F F') (k : ∀ a ∈ Q, H' a = H a) : RRs K G L P σ (r :: rs) e' F' H' (v :: vs) := by
  obtain ⟨fps, h1, R⟩ := h
  cases r with
  | t x =>
    obtain ⟨fp, a1, a2⟩ := hr
    have e1 := (hQ fp).1 x rfl a1
    subst e1
    refine ⟨Q ++ fps, .t (a1.frame s fun a ha => ⟨(R.outP a (by simp [ha])).1, k a ha⟩) h1, R.perm ?_⟩
    rw [List.append_assoc]
    exact List.perm_append_comm_assoc _ _ _
  | p i ks =>
    cases ks with
    | nil =>
      obtain ⟨_, v0, e0, hat⟩ := hr
      cases hat
      have e1 := (hQ []).2 ⟨i, rfl⟩
      subst e1
      exact ⟨fps, .p e0 h1, by simpa using R⟩
    | cons _ _ => exact hl.elim
theorem RRs.rds : ∀ {rs : List R} {vs : List V} {ds : List D} {P : List Addr}, RRs K G L P σ rs e F H vs → rds e rs = some ds → RPs K H vs ds
  | [], vs, ds, P, R, h => by
    obtain ⟨_, a, _⟩ := R
    cases a
    simp [Fx.rds] at h; subst h
    exact .nil
  | r :: rs, vs, ds, P, R, h => by
    have hv : ∃ v ws, vs = v :: ws := by
      obtain ⟨_, a, _⟩ := R
      cases a <;> exact ⟨_, _, rfl⟩
    obtain ⟨v, ws, rfl⟩ := hv
    obtain ⟨fps, h1, h2⟩ := R.head
    simp only [Fx.rds] at h
    cases e1 : rd e r with
    | none => rw [e1] at h; simp at h
    | some d =>
      cases e2 : Fx.rds e rs with
      | none => rw [e1, e2] at h; simp at h
      | some ds' =>
        rw [e1, e2] at h
        simp at h; subst h
        refine .cons (h2.rd e1) (RRs.rds (P := P) ⟨fps, h1, h2.rel'⟩ e2)
theorem RRs.mvs : ∀ {rs : List R} {vs : List V} {ts : List T} {P : List Addr} {e e' : Env} {F : Hp}, RRs K G L P σ rs e F H vs → mvs rs e = some (ts, e') → ∃ F' fp, Same F F' ∧ RTs K F' H vs ts fp ∧ Rel K G L (fp ++ P) e' F' σ H
  | [], vs, ts, P, e, e', F, R, h => by
    obtain ⟨_, a, R⟩ := R
    cases a
    simp [Fx.mvs] at h
    obtain ⟨rfl, rfl⟩ := h
    exact ⟨F, [], Same.refl F, .nil, R⟩
  | r :: rs, vs, ts, P, e, e', F, R, h => by
    have hv : ∃ v ws, vs = v :: ws := by
      obtain ⟨_, a, _⟩ := R
      cases a <;> exact ⟨_, _, rfl⟩
    obtain ⟨v, ws, rfl⟩ := hv
    obtain ⟨fps, h1, h2⟩ := R.head
    simp only [Fx.mvs] at h
    cases e1 : mv r e with
    | none => rw [e1] at h; simp at h
    | some p =>
      obtain ⟨t, e2⟩ := p
      rw [e1] at h
      simp only at h
      obtain ⟨F1, fp, s1, r1, R1⟩ := h2.mv e1
      cases e3 : Fx.mvs rs e2 with
      | none => rw [e3] at h; simp at h
      | some p =>
        obtain ⟨ts', e4⟩ := p
        rw [e3] at h
        simp at h
        obtain ⟨rfl, rfl⟩ := h
        have R2 := h1.onto R1 s1 (fun _ _ => rfl)
        obtain ⟨F2, fq, s2, r2, R3⟩ := RRs.mvs R2 e3
        refine ⟨F2, fp ++ fq, s1.trans s2, .cons (r1.frame s2 fun a ha => ⟨(R3.outP a (by simp [ha])).1, rfl⟩) r2, R3.perm ?_⟩
        rw [List.append_assoc]
        exact List.perm_append_comm_assoc _ _ _
theorem RRs.mvFs : ∀ {rs : List R} {vs : List V} {ds : List D} {P : List Addr} {e e' : Env} {F : Hp}, RRs K G L P σ rs e F H vs → mvFs rs e = some (ds, e') → ∃ F', Same F F' ∧ RPs K F' vs ds ∧ Rel K G L P e' F' σ H
  | [], vs, ts, P, e, e', F, R, h => by
    obtain ⟨_, a, R⟩ := R
    cases a
    simp [Fx.mvFs] at h
    obtain ⟨rfl, rfl⟩ := h
    exact ⟨F, Same.refl F, .nil, R⟩
  | r :: rs, vs, ts, P, e, e', F, R, h => by
    have hv : ∃ v ws, vs = v :: ws := by
      obtain ⟨_, a, _⟩ := R
      cases a <;> exact ⟨_, _, rfl⟩
    obtain ⟨v, ws, rfl⟩ := hv
    obtain ⟨fps, h1, h2⟩ := R.head
    simp only [Fx.mvFs] at h
    cases e1 : mvF r e with
    | none => rw [e1] at h; simp at h
    | some p =>
      obtain ⟨t, e2⟩ := p
      rw [e1] at h
      simp only at h
      obtain ⟨F1, s1, r1, R1⟩ := h2.mvF e1
      cases e3 : Fx.mvFs rs e2 with
      | none => rw [e3] at h; simp at h
      | some p =>
        obtain ⟨ts', e4⟩ := p
        rw [e3] at h
        simp at h
        obtain ⟨rfl, rfl⟩ := h
        have R2 := h1.onto (Q := []) R1 s1 (fun _ _ => rfl)
        obtain ⟨F2, s2, r2, R3⟩ := RRs.mvFs R2 e3
        exact ⟨F2, s1.trans s2, .cons (r1.mn s2) r2, R3⟩

/-- the top by what stands in the heap, its parts known -/
def RK (K : PySem.W.Frag) (F H : Hp) (v : V) (d : D) : Prop := match d with
  | .lst ds => ∃ a xs, v = .ref a ∧ H a = some (.lst xs) ∧ RPs K F xs ds
  | .tup ds => ∃ a xs, v = .ref a ∧ SqU K H a xs ∧ RPs K F xs ds
  | d => RP K F v d
theorem RP.rk {d : D} (s : Same F H) (h : RP K F v d) : RK K F H v d := by
  cases h with
  | tup h1 h2 => exact ⟨_, _, rfl, SqU.mn s h1, h2⟩
  | lst h1 h2 => exact ⟨_, _, rfl, s _ _ h1, h2⟩
  | rol h1 h2 => exact .rol h1 h2
  | non => exact .non
  | bl b => exact .bl b
  | int i => exact .int i
  | str x => exact .str x
  | ty n => exact .ty n
theorem RK.mn {d : D} (s : Same F F') (h : RK K F H v d) : RK K F' H v d := by
  cases d with
  | lst ds => obtain ⟨a, xs, e, h1, h2⟩ := h; exact ⟨a, xs, e, h1, h2.mn s⟩
  | tup ds => obtain ⟨a, xs, e, h1, h2⟩ := h; exact ⟨a, xs, e, h1, h2.mn s⟩
  | _ => exact RP.mn s h
inductive RKs (K : PySem.W.Frag) (F H : Hp) : List V → List D → Prop
  | nil : RKs K F H [] []
  | cons {v : V} {vs : List V} {d : D} {ds : List D} : RK K F H v d → RKs K F H vs ds → RKs K F H (v :: vs) (d :: ds)
theorem RT.rk (s : Same F H) (h : RT K F H v t fp) (hk : fp = [] ∨ ∃ ts, t = .own ts ∧ ts.all T.isFz = true) : RK K F H v t.er := by
  rcases hk with rfl | ⟨ts, rfl, ha⟩
  · cases h with
    | fz h => exact h.rk s
    | tup h hs => exact (RP.tup (SqU.of h) (hs.frz (Same.refl F) (fun _ z => absurd z (by simp)))).rk s
  · cases h with
    | own h1 h2 hs =>
      obtain ⟨rfl, q⟩ := hs.fzs ha
      exact ⟨_, _, rfl, h2, q⟩
/-- the parts are frozen -/
theorem RR.kids {r : R} {d : D} (R : RR K G L P σ r e F H v) (hd : Fx.rd e r = some d) (h : kidsR r e = some e') : ∃ F', Same F F' ∧ RK K F' H v d ∧ Rel K G L P e' F' σ H := by
  cases r with
  | t x =>
    obtain ⟨fp, h1, h2⟩ := R
    simp [Fx.rd] at hd; subst hd
    simp [Fx.kidsR] at h; subst h
    obtain ⟨F', s, r, R'⟩ := h2.frz h1
    exact ⟨F', s, r.rk R'.same, R'⟩
  | p i ks =>
    obtain ⟨R, v0, e0, hat⟩ := R
    obtain ⟨gp, g1, g2, g4, g3⟩ := R.env
    simp only [Fx.kidsR] at h
    simp only [Fx.rd] at hd
    cases es : e[i]? with
    | none => rw [es] at h; cases h
    | some s =>
      rw [es] at h
      cases s with
      | un => cases h
      | lk t0 =>
        rw [slotT_lk es] at hd
        simp only at h hd
        cases eg : getP t0 ks with
        | none => rw [eg] at h; cases h
        | some u =>
          rw [eg] at h hd
          simp at hd
          obtain ⟨w, q, w1, w2, _⟩ := g1.slot (slotT_lk es)
          rw [e0] at w1; cases w1
          obtain ⟨_, q', _, _, r', _⟩ := w2.down eg hat
          cases u with
          | fz d' =>
            simp at h; subst h hd
            cases r' with
            | fz z => exact ⟨F, Same.refl F, z.rk R.same, R⟩
          | own ts =>
            simp only at h
            split at h
            · rename_i ha
              simp at h; subst h hd
              exact ⟨F, Same.refl F, r'.rk R.same (.inr ⟨ts, rfl, ha⟩), R⟩
            · cases h
          | ownd _ => cases h
          | tup _ => cases h
      | is t0 =>
        rw [slotT_is es] at hd
        simp only at h hd
        cases eg : getP t0 ks with
        | none => rw [eg] at h; cases h
        | some u =>
          rw [eg] at h hd
          simp at hd
          simp only at h
          cases es' : setP t0 ks u.kids with
          | none => rw [es'] at h; cases h
          | some t' =>
            rw [es'] at h
            simp at h; subst h hd
            obtain ⟨o, A, q, B, a1, rfl, a3, a4⟩ := g1.at es
            obtain ⟨w, rfl, w2, w3⟩ := a3
            rw [e0] at a1; cases a1
            obtain ⟨A', q', B', b1, b2, b3⟩ := w2.down eg hat
            -- what is kept of the footprint, what comes to the known
            have main : ∃ q1 q2 : List Addr, (∀ a ∈ q1, a ∈ q') ∧ q2.Sublist q' ∧ (∀ a ∈ q2, a ∉ q1) ∧ ∀ F' : Hp, Same F F' → (∀ a ∈ q1, F' a = H a) → (∀ a ∈ q2, F' a = none) → RK K F' H v u.er ∧ RT K F' H v u.kids q2 := by
              cases b2 with
              | fz z => exact ⟨[], [], by simp, List.Sublist.refl _, by simp, fun F' s _ _ => ⟨RK.mn s (z.rk R.same), .fz (z.mn s)⟩⟩
              | @own a xs ts fp h1 h2 hs =>
                have nda : a ∉ fp := by
                  have := nd_sub (l' := a :: fp) (by
                    subst b1
                    refine List.Sublist.trans ?_ (List.sublist_append_right P _)
                    refine List.Sublist.trans ?_ (List.sublist_append_left _ B)
                    refine List.Sublist.trans ?_ (List.sublist_append_right A _)
                    refine List.Sublist.trans ?_ (List.sublist_append_left _ B')
                    exact List.sublist_append_right A' _) g2
                  exact (List.nodup_cons.mp this).1
                refine ⟨fp, [a], fun x hx => List.mem_cons_of_mem _ hx, by simp, fun x hx => by simp at hx; subst hx; exact nda, fun F' s k1 k2 => ?_⟩
                have z := hs.frz s k1
                refine ⟨⟨a, xs, rfl, h2, z⟩, ?_⟩
                have := RT.own (H := H) (k2 a (by simp)) h2 (RTs.ofFz z)
                simpa [T.kids] using this
              | @tup a xs ts fp h1 hs =>
                refine ⟨q', [], fun _ h => h, List.nil_sublist _, by simp, fun F' s k1 _ => ?_⟩
                have z := hs.frz s k1
                exact ⟨⟨a, xs, rfl, SqU.of (R.same _ _ h1), z⟩, by simpa [T.kids] using RT.fz (RP.tup (SqU.of (s _ _ h1)) z)⟩
            obtain ⟨q1, q2, m1, m2, m3, m4⟩ := main
            have hq : ∀ a ∈ q1, F a = none := fun a ha => (g3 a (by subst b1; simp [m1 a ha])).1
            have s := addF_same (H := H) hq
            have nd : (q' ++ (P ++ (A ++ A' ++ B' ++ B))).Nodup := by
              subst b1
              refine nd_perm ?_ g2
              have : (P ++ (A ++ (A' ++ q' ++ B') ++ B)) = (P ++ A ++ A') ++ (q' ++ (B' ++ B)) := by simp
              rw [this]
              refine (List.perm_append_comm_assoc _ _ _).trans ?_
              simp
            have out : ∀ a ∈ P ++ (A ++ A' ++ B' ++ B), a ∉ q' := fun a ha hq => (List.nodup_append.mp nd).2.2 a hq a ha rfl
            have hold : ∀ a ∈ P ++ (A ++ A' ++ B' ++ B), addF F H q1 a = none ∧ H a ≠ none := fun a ha => by
              have := g3 a (by subst b1; simp at ha ⊢; rcases ha with z | z | z | z | z <;> simp [z])
              exact ⟨by rw [addF_out fun z => out a ha (m1 a z)]; exact this.1, this.2.1⟩
            have hq2 : ∀ a ∈ q2, addF F H q1 a = none := fun a ha => by rw [addF_out (m3 a ha)]; exact (g3 a (by subst b1; simp [m2.subset ha])).1
            obtain ⟨k1, k2⟩ := m4 (addF F H q1) s (fun a ha => addF_in ha) hq2
            have rt := b3 (F' := addF F H q1) (H' := H) es' (fun r hs => r.frame s fun a ha => ⟨(hold a (by have := hs a ha; simp at this ⊢; rcases this with z | z <;> simp [z])).1, rfl⟩)
              (fun a ha => ⟨(hold a (by simp at ha ⊢; rcases ha with z | z <;> simp [z])).1, rfl⟩) k2
            have hset : σ.set i (some v0) = σ := by
              apply List.ext_getElem?
              intro j
              by_cases hj : j = i
              · subst hj
                have hlt : j < σ.length := (List.getElem?_eq_some_iff.mp e0).1
                rw [List.getElem?_set_self hlt, e0]
              · rw [List.getElem?_set_ne (Ne.symm hj)]
            have re := a4 (F' := addF F H q1) (H' := H) (L' := L) (s' := .is t') (o' := some v0) (q' := A' ++ q2 ++ B') (fun r hs => r.frame s fun a ha => ⟨(hold a (by have := hs a ha; simp at this ⊢; rcases this with z | z <;> simp [z])).1, rfl⟩)
              (fun _ _ => Iff.rfl) ⟨v0, rfl, rt, fun a ha => w3 a (by subst b1; simp at ha ⊢; rcases ha with z | z | z; exact .inl z; exact .inr (.inl (m2.subset z)); exact .inr (.inr z))⟩
            have sub3 : (A' ++ q2 ++ B').Sublist (A' ++ q' ++ B') := List.Sublist.append (List.Sublist.append (List.Sublist.refl _) m2) (List.Sublist.refl _)
            have nd3 : ((A' ++ q' ++ B') ++ (P ++ (A ++ B))).Nodup := by
              refine nd_perm ?_ nd
              have e1 : (q' ++ (P ++ (A ++ A' ++ B' ++ B))) = q' ++ ((P ++ A) ++ ((A' ++ B') ++ B)) := by simp
              have e2 : ((A' ++ q' ++ B') ++ (P ++ (A ++ B))) = A' ++ (q' ++ (B' ++ (P ++ (A ++ B)))) := by simp
              rw [e1, e2]
              refine List.Perm.trans ?_ (List.perm_append_comm_assoc _ _ _)
              refine List.Perm.append_left q' ?_
              refine (List.perm_append_comm_assoc _ _ _).trans ?_
              simp
            have := R.chg (i := i) (s' := .is t') (o' := some v0) rfl g2 g4 g3 s (addF_le R.same) re (nd_sub sub3 (List.nodup_append.mp nd3).1) (fun a ha hb => (List.nodup_append.mp nd3).2.2 a (sub3.subset ha) a hb rfl)
              (fun a ha => by
                have hin : a ∈ P ++ (A ++ q ++ B) := by subst b1; have := sub3.subset ha; simp at this ⊢; rcases this with z | z | z <;> simp [z]
                refine ⟨?_, (g3 a hin).2⟩
                simp at ha
                rcases ha with z | z | z
                · exact (hold a (by simp [z])).1
                · exact hq2 a z
                · exact (hold a (by simp [z])).1)
              (fun a ha => hold a (by simp at ha ⊢; rcases ha with z | z | z <;> simp [z])) (fun a xs h => s _ _ (R.tups a xs h))
              (fun a ha => by
                by_cases m : a ∈ q1
                · exact .inr ((g3 a (by subst b1; simp [m1 a m])).2.2)
                · rw [addF_out m] at ha; exact .inl ha) R.frm (fun _ h => h)
            rw [hset] at this
            exact ⟨_, s, k1, this⟩
mutual
theorem kids_er : ∀ t : T, t.kids.er = t.er
  | .fz d => rfl
  | .own ts => by simp [T.kids, T.er, ers_fz]
  | .ownd kvs => by simp only [T.kids, T.er, D.dic.injEq]; exact kids_erk kvs
  | .tup ts => by simp [T.kids, T.er]
theorem kids_erk : ∀ kvs : List (D × T), erk ((erk kvs).map fun p => (p.1, T.fz p.2)) = erk kvs
  | [] => rfl
  | (k, t) :: r => by simp [erk, T.er, kids_erk r]
end
theorem rd_kids {r : R} {i : Nat} {e1 : Env} (h : kidsR (.p i []) e = some e1) (hr : r.stl) : Fx.rd e1 r = Fx.rd e r := by
  cases r with
  | t x => rfl
  | p j ks =>
    cases ks with
    | cons _ _ => exact hr.elim
    | nil =>
      simp only [Fx.kidsR] at h
      cases es : e[i]? with
      | none => rw [es] at h; cases h
      | some s =>
        rw [es] at h
        cases s with
        | un => cases h
        | lk t0 =>
          simp only [getP] at h
          cases t0 with
          | fz d => simp at h; subst h; rfl
          | own ts => simp only at h; split at h <;> first | (simp at h; subst h; rfl) | cases h
          | ownd _ => cases h
          | tup _ => cases h
        | is t0 =>
          simp [getP, setP] at h
          subst h
          simp only [Fx.rd, slotT]
          by_cases hj : j = i
          · subst hj
            have hlt : j < e.length := (List.getElem?_eq_some_iff.mp es).1
            rw [List.getElem?_set_self hlt, es]
            simp [getP, kids_er]
          · rw [List.getElem?_set_ne (Ne.symm hj)]
theorem Pd.stl : ∀ {rs : List R} {vs : List V} {fps : List Addr}, Pd K F H σ rs vs fps → ∀ r ∈ rs, r.stl
  | _, _, _, .nil, r, h => by simp at h
  | _, _, _, .t _ h, r, m => by
    rcases List.mem_cons.mp m with z | z
    · subst z; trivial
    · exact Pd.stl h r z
  | _, _, _, .p _ h, r, m => by
    rcases List.mem_cons.mp m with z | z
    · subst z; trivial
    · exact Pd.stl h r z
theorem rds_kids {i : Nat} {e1 : Env} (h : kidsR (.p i []) e = some e1) : ∀ {rs : List R}, (∀ r ∈ rs, r.stl) → Fx.rds e1 rs = Fx.rds e rs
  | [], _ => rfl
  | r :: rs, hs => by simp only [Fx.rds, rd_kids h (hs r List.mem_cons_self), rds_kids h fun r m => hs r (List.mem_cons_of_mem _ m)]
theorem RRs.kids : ∀ {rs : List R} {vs : List V} {ds : List D} {P : List Addr} {e e' : Env} {F : Hp}, RRs K G L P σ rs e F H vs → Fx.rds e rs = some ds → kidsRs rs e = some e' → ∃ F', Same F F' ∧ RKs K F' H vs ds ∧ Rel K G L P e' F' σ H
  | [], vs, ts, P, e, e', F, R, h, h2 => by
    obtain ⟨_, a, R⟩ := R
    cases a
    simp [Fx.rds] at h
    simp [Fx.kidsRs] at h2
    subst h h2
    exact ⟨F, Same.refl F, .nil, R⟩
  | r :: rs, vs, ts, P, e, e', F, R, h, h2 => by
    have hv : ∃ v ws, vs = v :: ws := by
      obtain ⟨_, a, _⟩ := R
      cases a <;> exact ⟨_, _, rfl⟩
    obtain ⟨v, ws, rfl⟩ := hv
    have hst : ∀ r ∈ rs, r.stl := by
      obtain ⟨_, a, _⟩ := R
      exact fun r m => a.stl r (List.mem_cons_of_mem _ m)
    have hst0 : r.stl := by
      obtain ⟨_, a, _⟩ := R
      exact a.stl r List.mem_cons_self
    obtain ⟨fps, h1, h3⟩ := R.head
    simp only [Fx.rds] at h
    cases e1 : Fx.rd e r with
    | none => rw [e1] at h; simp at h
    | some d =>
      cases e2 : Fx.rds e rs with
      | none => rw [e1, e2] at h; simp at h
      | some ds' =>
        rw [e1, e2] at h
        simp at h; subst h
        simp only [Fx.kidsRs] at h2
        cases e3 : kidsR r e with
        | none => rw [e3] at h2; simp at h2
        | some e4 =>
          rw [e3] at h2
          simp only at h2
          obtain ⟨F1, s1, k1, R1⟩ := h3.kids e1 e3
          have R2 := h1.onto (Q := []) R1 s1 (fun _ _ => rfl)
          have e5 : Fx.rds e4 rs = some ds' := by
            cases r with
            | t x => simp [Fx.kidsR] at e3; subst e3; exact e2
            | p i ks =>
              cases ks with
              | cons _ _ => exact hst0.elim
              | nil => rw [rds_kids e3 hst]; exact e2
          obtain ⟨F2, s2, k2, R3⟩ := RRs.kids R2 e5 h2
          exact ⟨F2, s1.trans s2, .cons (k1.mn s2) k2, R3⟩
end
end Fx

set_option Elab.async false
set_option linter.all false
set_option maxRecDepth 100000
/-! Fx rules: the evaluator's outcome as a reading; expressions. -/
namespace Fx
abbrev SSt := L2.St
open PySem PySem.Spec PyProof.Rows L2
/-- an exception that lies in the heap: class c of the table with these fields -/
def XR (K : PySem.W.Frag) (xt : Nat → Option (Value × List Str)) (c : Nat) (fs : List D) (F H : Hp) (cls : Value) (d : Option Addr) : Prop :=
  ∃ attrs dx vs, xt c = some (cls, attrs) ∧ d = some dx ∧ H dx = some (.xd (attrs.zip vs)) ∧ RPs K F vs fs
/-- what is protected stays -/
def Prs (P L : List Addr) (H H' : Hp) : Prop := ∀ x, x ∈ P ∨ x ∈ L → H' x = H x
theorem Prs.refl {P L : List Addr} {H : Hp} : Prs P L H H := fun _ _ => rfl
theorem Prs.trans {P L : List Addr} {H H1 H2 : Hp} (a : Prs P L H H1) (b : Prs P L H1 H2) : Prs P L H H2 := fun x h => (b x h).trans (a x h)
theorem Prs.less {P P' L : List Addr} {H H' : Hp} (a : Prs P' L H H') (h : ∀ x ∈ P, x ∈ P') : Prs P L H H' := fun x k => a x (k.elim (fun z => .inl (h x z)) .inr)
/-- what the soundness is about: the written part, the classes, the wish about exceptions, the functions -/
structure Wd where
  K : PySem.W.Frag
  xt : Nat → Option (Value × List Str)
  W : WX
  C : Cf
  /-- slots that are not stored to -/
  kp : List Nat
section
variable (w : Wd) (G : Gh) (L P : List Addr) (σ : SSt)
def Po {α β : Type} (rep : α → Env → Hp → Hp → β → Prop) (F H : Hp) (o : Out α) (Q : β → Hp → Prop) : Prop := match o with
  | .ok a e' => ∀ b F' H', rep a e' F' H' b → Same F F' → Prs P L H H' → Q b H'
  | .exc c fs e' => ∀ F' H' cls d, Rel w.K G L P e' F' σ H' → XR w.K w.xt c fs F' H' cls d → Same F F' → Prs P L H H' → w.W cls d σ H'
  | .bad => False
/-- a result; results; what is told beside the state -/
def rpR : R → Env → Hp → Hp → V → Prop := fun r e F H v => RR w.K G L P σ r e F H v
def rpRs : List R → Env → Hp → Hp → List V → Prop := fun rs e F H vs => RRs w.K G L P σ rs e F H vs
def rpA {α : Type} : α → Env → Hp → Hp → α → Prop := fun a e F H b => b = a ∧ Rel w.K G L P e F σ H
end
section
variable {w : Wd} {G : Gh} {L P : List Addr} {σ : SSt} {F F' H H' : Hp} {e e' : Env}
theorem Po.base {α β : Type} {rep : α → Env → Hp → Hp → β → Prop} {o : Out α} {Q : β → Hp → Prop} (h : Po w G L P σ rep F H o Q) (s : Same F F') (p : Prs P L H H') : Po w G L P σ rep F' H' o Q := by
  cases o with
  | ok a e' => exact fun b F2 H2 r s2 p2 => h b F2 H2 r (s.trans s2) (p.trans p2)
  | exc c fs e' => exact fun F2 H2 cls d r x s2 p2 => h F2 H2 cls d r x (s.trans s2) (p.trans p2)
  | bad => exact h
theorem Po.imp {α β : Type} {rep : α → Env → Hp → Hp → β → Prop} {o : Out α} {Q Q' : β → Hp → Prop} (h : Po w G L P σ rep F H o Q) (k : ∀ b H, Q b H → Q' b H) : Po w G L P σ rep F H o Q' := by
  cases o with
  | ok a e' => exact fun b F2 H2 r s2 p2 => k _ _ (h b F2 H2 r s2 p2)
  | exc c fs e' => exact h
  | bad => exact h
theorem Po.bnd {α β α' β' : Type} {rep : α → Env → Hp → Hp → β → Prop} {rep' : α' → Env → Hp → Hp → β' → Prop} {o : Out α} {f : α → Env → Out α'} {Q : β' → Hp → Prop} {Q' : β → Hp → Prop}
    (h : Po w G L P σ rep' F H (o.bnd f) Q) (k : ∀ a e' b F' H', o = .ok a e' → rep a e' F' H' b → Same F F' → Prs P L H H' → Po w G L P σ rep' F' H' (f a e') Q → Q' b H') : Po w G L P σ rep F H o Q' := by
  cases o with
  | ok a e' => exact fun b F2 H2 r s2 p2 => k a e' b F2 H2 rfl r s2 p2 (Po.base h s2 p2)
  | exc c fs e' => exact h
  | bad => exact h
/-- where more is protected for a while -/
theorem Po.more {α β : Type} {rep rep' : α → Env → Hp → Hp → β → Prop} {Pm : List Addr} {o : Out α} {Q : β → Hp → Prop} (h : Po w G L P σ rep F H o Q) (hx : ∀ e F H, Rel w.K G L (Pm ++ P) e F σ H → Rel w.K G L P e F σ H)
    (k : ∀ a e F' H' b, rep' a e F' H' b → rep a e F' H' b) : Po w G L (Pm ++ P) σ rep' F H o Q := by
  cases o with
  | ok a e' => exact fun b F2 H2 r s2 p2 => h b F2 H2 (k _ _ _ _ _ r) s2 (p2.less fun x m => by simp [m])
  | exc c fs e' => exact fun F2 H2 cls d r x s2 p2 => h F2 H2 cls d (hx _ _ _ r) x s2 (p2.less fun x m => by simp [m])
  | bad => exact h
/-- settled -/
theorem RR.settle {r r' : Fx.R} {v : V} (R : RR w.K G L P σ r e F H v) (h : Fx.settle r e = some (r', e')) : ∃ F', Same F F' ∧ RR w.K G L P σ r' e' F' H v ∧ r'.stl := by
  cases r with
  | t x => simp [Fx.settle] at h; obtain ⟨rfl, rfl⟩ := h; exact ⟨F, Same.refl F, R, trivial⟩
  | p i ks =>
    cases ks with
    | nil => simp [Fx.settle] at h; obtain ⟨rfl, rfl⟩ := h; exact ⟨F, Same.refl F, R, trivial⟩
    | cons k ks =>
      simp only [Fx.settle] at h
      cases em : Fx.mv (Fx.R.p i (k :: ks)) e with
      | none => rw [em] at h; cases h
      | some p =>
        obtain ⟨t, e1⟩ := p
        rw [em] at h
        simp at h
        obtain ⟨rfl, rfl⟩ := h
        obtain ⟨F1, fp, s1, r1, R1⟩ := R.mv em
        exact ⟨F1, s1, ⟨fp, r1, R1⟩, trivial⟩
theorem Po.bndS {α' β' : Type} {rep' : α' → Env → Hp → Hp → β' → Prop} {o : Out R} {f : R → Env → Out α'} {Q : β' → Hp → Prop} {Q' : V → Hp → Prop}
    (h : Po w G L P σ rep' F H (o.stl.bnd f) Q) (k : ∀ r e' v F' H', RR w.K G L P σ r e' F' H' v → r.stl → Same F F' → Prs P L H H' → Po w G L P σ rep' F' H' (f r e') Q → Q' v H') : Po w G L P σ (rpR w G L P σ) F H o Q' := by
  cases o with
  | ok a e' =>
    intro v F2 H2 r s2 p2
    simp only [Out.stl] at h
    cases es : settle a e' with
    | none => rw [es] at h; exact h.elim
    | some p =>
      obtain ⟨r', e1⟩ := p
      rw [es] at h
      obtain ⟨F3, s3, R3, h3⟩ := RR.settle (w := w) r es
      exact k r' e1 v F3 H2 R3 h3 (s2.trans s3) p2 (Po.base h (s2.trans s3) p2)
  | exc c fs e' => exact h
  | bad => exact h
/-- where no place within a tree comes out, settling is nothing -/
theorem Po.ok {α β : Type} {rep : α → Env → Hp → Hp → β → Prop} {a : α} {Q : β → Hp → Prop} {b : β} (h : Po w G L P σ rep F H (.ok a e) Q) (r : rep a e F' H' b) (s : Same F F') (p : Prs P L H H') : Q b H' := h b F' H' r s p
end
/-- the readings -/
def tE (w : Wd) (x : E) : TE := fun σ H Q => ∃ G L P e F, Rel w.K G L P e F σ H ∧ Po w G L P σ (rpR w G L P σ) F H (ev w.C x e) Q
def tEs (w : Wd) (xs : Es) : TA := fun σ H Q => ∃ G L P e F, Rel w.K G L P e F σ H ∧ Po w G L P σ (rpRs w G L P σ) F H (evs w.C xs e) Q
def tB (w : Wd) (x : E) : TT := fun σ H Q => ∃ G L P e F, Rel w.K G L P e F σ H ∧ Po w G L P σ (rpA w G L P σ) F H (evT w.C x e) Q
def tEo (w : Wd) (x : Oe) : TO := fun σ H Q => ∃ G L P e F, Rel w.K G L P e F σ H ∧ Po w G L P σ (rpA w G L P σ) F H (evo w.C x e) Q
theorem _root_.L2.PE.imp' {X : Cx} {x : Expr} {t t' : TE} (h : PE X x t) (k : ∀ σ H Q, t' σ H Q → t σ H Q) : PE X x t' := ⟨fun pins s σ H Q I hw => h.run pins s σ H Q I (k σ H Q hw)⟩
theorem _root_.L2.PT.imp' {X : Cx} {x : Expr} {t t' : TT} (h : PT X x t) (k : ∀ σ H Q, t' σ H Q → t σ H Q) : PT X x t' := ⟨fun pins s σ H Q I hw => h.run pins s σ H Q I (k σ H Q hw)⟩
theorem _root_.L2.PW.imp' {X : Cx} {x : Expr} {t t' : TT} (h : PW X x t) (k : ∀ σ H Q, t' σ H Q → t σ H Q) : PW X x t' := ⟨fun whole pins s σ H Q I hw => h.run whole pins s σ H Q I (k σ H Q hw)⟩
theorem _root_.L2.PA.imp' {X : Cx} {xs : List Expr} {t t' : TA} (h : PA X xs t) (k : ∀ σ H Q, t' σ H Q → t σ H Q) : PA X xs t' := ⟨fun pos pins s σ H Q I hw => h.run pos pins s σ H Q I (k σ H Q hw)⟩
theorem _root_.L2.PO.imp' {X : Cx} {x : Option Expr} {t t' : TO} (h : L2.PO X x t) (k : ∀ σ H Q, t' σ H Q → t σ H Q) : L2.PO X x t' := ⟨fun pins s σ H Q I hw => h.run pins s σ H Q I (k σ H Q hw)⟩

/-! ### the context -/
/-- names: by slot; of functions with their parameters; of constants -/
structure Tb where
  N : List Str
  kp : List Nat
  fnm : Nat → Option (Str × List Str)
  gnm : Nat → Option Str
/-- the built-in names that the text uses -/
def blts : List String := ["len", "abs", "min", "max", "sum", "sorted", "tuple", "list", "int", "any", "all", "isinstance", "set", "range", "enumerate", "zip", "bool", "str", "dict", "reversed"]
/-- a call's end -/
def CallPost (K : PySem.W.Frag) (F H : Hp) (fp : List Addr) (F' H' : Hp) : Prop :=
  Same F F' ∧ Same F' H' ∧ (∀ a xs, H' a = some (.tup xs) → F' a = some (.tup xs)) ∧ (∀ a o, H a = some o → a ∉ fp → H' a = some o) ∧ (∀ a, H a ≠ none → H' a ≠ none) ∧ ∀ a, F' a ≠ none → F a ≠ none ∨ H a = none ∨ a ∈ fp
/-- what a function promises -/
def spOf (K : PySem.W.Frag) (xt : Nat → Option (Value × List Str)) (n : Nat) (fn : Fn) : Sp := fun vs H Q E => ∃ (F : Hp) (ts : List T) (fp : List Addr),
  vs.length = n ∧ Same F H ∧ (∀ a xs, H a = some (.tup xs) → F a = some (.tup xs)) ∧ RTs K F H vs ts fp ∧ fp.Nodup ∧ (ts.drop fn.mu).all T.isFz = true ∧ match fn.f ts with
  | none => False
  | some (.ret r m) => ∀ v F' H' fpr fpm, CallPost K F H fp F' H' → RT K F' H' v r fpr → RTs K F' H' (vs.take fn.mu) m fpm → (fpr ++ fpm).Nodup → (∀ a ∈ fpr ++ fpm, F' a = none ∧ (H a = none ∨ a ∈ fp)) → Q v H'
  | some (.exc c fs m) => ∀ F' H' fpm cls d, CallPost K F H fp F' H' → XR K xt c fs F' H' cls d → RTs K F' H' (vs.take fn.mu) m fpm → fpm.Nodup → (∀ a ∈ fpm, F' a = none ∧ (H a = none ∨ a ∈ fp)) → E cls d H'
structure FnAt (X : Cx) (xt : Nat → Option (Value × List Str)) (k : Nat) (x : Str) (ps : List Str) (fn : Fn) : Prop where
  ex : ∃ f fd, X.mg x = some (.ref f) ∧ PySem.W.keepIn X.K (.ref f) = true ∧ Binds X.K fd ps [] ∧ KBa fd ps ∧ FnOk X.prog X.w X.K X.mg X.base (L2.CX X.prog X.w) k f fd ps (spOf X.K xt ps.length fn)
structure Gd (tb : Tb) (w : Wd) (k : Nat) (sc ws : Scope) (X : Cx) : Prop where
  K : X.K = w.K
  kp : w.kp = tb.kp
  N : X.N = tb.N
  nd : X.N.Nodup
  sc : X.env.scope = sc
  calm : X.calm = true
  room : Room k X.A
  takes : Takes X w.W
  po : PassesOwn (model X.prog X.w) X.A X.env X.xe
  fns : ∀ i fn, w.C.ft i = some fn → ∃ x ps, tb.fnm i = some (x, ps) ∧ FnAt X w.xt k x ps fn
  gts : ∀ i d, w.C.gt i = some d → ∃ x v u, tb.gnm i = some x ∧ X.mg x = some u ∧ RelV v u ∧ ∀ F, RP X.K F v d
  blt : ∀ x ∈ blts, X.mg (Str.ofString x) = none
  sto : ∀ x, (ws.names.lookup x = some .local ∨ ws.names.lookup x = some .cell) → Loc X.env.scope x ∧ (X.fn x = true ∨ X.env.scope.names.lookup x = some .local)
end Fx

set_option Elab.async false
set_option linter.all false
set_option maxRecDepth 100000
/-! Fx operators: comparisons, arithmetic, + of lists and tuples, by data. -/
namespace Fx
open PySem PySem.Spec PyProof.Rows L2
section
variable {K : PySem.W.Frag} {F H : Hp}
mutual
theorem RP.dp : ∀ {n : Nat} {v : V} {d : D}, RP K H v d → d.okE n = true → Dp K H v d.py
  | _, _, _, .non, _ => by simp only [D.py]; exact .non
  | _, _, _, .bl b, _ => by simp only [D.py]; exact .bl b
  | _, _, _, .int i, _ => by simp only [D.py]; exact .int i
  | _, _, _, .str x, _ => by simp only [D.py]; exact .str x
  | _, _, _, .ty n, h => by simp [D.okE] at h
  | 0, _, _, .tup _ _, h => by simp [D.okE] at h
  | n + 1, _, _, .tup h1 h2, h => by simp only [D.py]; exact .tup h1.t (RPs.dp h2 (by simpa [D.okE] using h))
  | 0, _, _, .lst _ _, h => by simp [D.okE] at h
  | n + 1, _, _, .lst h1 h2, h => by simp only [D.py]; exact .lst (SqL.of h1) (RPs.dp h2 (by simpa [D.okE] using h))
  | _, _, _, .rol _ _, h => by simp [D.okE] at h
theorem RPs.dp : ∀ {n : Nat} {vs : List V} {ds : List D}, RPs K H vs ds → okEs n ds = true → DpAll K H vs (pys ds)
  | _, _, _, .nil, _ => by simp only [pys]; exact .nil
  | _, _, _, .cons h hs, e => by
    simp only [okEs, Bool.and_eq_true] at e
    simp only [pys]
    exact .cons (RP.dp h e.1) (RPs.dp hs e.2)
end
mutual
theorem okE_py : ∀ (n : Nat) (d : D), d.okE n = true → d.py.canLay0 = true ∧ d.py.depth ≤ n
  | _, .non, _ => by simp [D.py, PyData.canLay0, PyData.depth]
  | _, .bl _, _ => by simp [D.py, PyData.canLay0, PyData.depth]
  | _, .int _, _ => by simp [D.py, PyData.canLay0, PyData.depth]
  | _, .str x, h => by simp only [D.okE] at h; exact ⟨by simpa [D.py] using h, by simp [D.py, PyData.depth]⟩
  | 0, .tup _, h => by simp [D.okE] at h
  | n + 1, .tup ds, h => by
    obtain ⟨h1, h2⟩ := okEs_py n ds (by simpa [D.okE] using h)
    exact ⟨by simpa [D.py, PyData.canLay0] using h1, by simp only [D.py, PyData.depth]; omega⟩
  | 0, .lst _, h => by simp [D.okE] at h
  | n + 1, .lst ds, h => by
    obtain ⟨h1, h2⟩ := okEs_py n ds (by simpa [D.okE] using h)
    exact ⟨by simpa [D.py, PyData.canLay0] using h1, by simp only [D.py, PyData.depth]; omega⟩
  | _, .rol _, h => by simp [D.okE] at h
  | _, .dic _, h => by simp [D.okE] at h
  | _, .set _, h => by simp [D.okE] at h
  | _, .ty _, h => by simp [D.okE] at h
theorem okEs_py : ∀ (n : Nat) (ds : List D), okEs n ds = true → PyData.canLayAll0 (pys ds) = true ∧ PyData.depthAll (pys ds) ≤ n
  | _, [], _ => by simp [pys, PyData.canLayAll0, PyData.depthAll]
  | n, d :: ds, h => by
    simp only [okEs, Bool.and_eq_true] at h
    obtain ⟨h1, h2⟩ := okE_py n d h.1
    obtain ⟨h3, h4⟩ := okEs_py n ds h.2
    exact ⟨by simp [pys, PyData.canLayAll0, h1, h3], by simp only [pys, PyData.depthAll]; omega⟩
end
mutual
theorem eq_py : ∀ a b : D, PyData.eqv a.py b.py = D.eq a b
  | .non, b => by cases b <;> simp [D.py, D.eq, PyData.eqv]
  | .bl _, b => by cases b <;> simp [D.py, D.eq, PyData.eqv]
  | .int _, b => by cases b <;> simp [D.py, D.eq, PyData.eqv]
  | .str _, b => by cases b <;> simp [D.py, D.eq, PyData.eqv]
  | .tup xs, b => by
    cases b with
    | tup ys => simp only [D.py, D.eq, PyData.eqv]; exact eqs_py xs ys
    | _ => simp [D.py, D.eq, PyData.eqv]
  | .lst xs, b => by
    cases b with
    | lst ys => simp only [D.py, D.eq, PyData.eqv]; exact eqs_py xs ys
    | _ => simp [D.py, D.eq, PyData.eqv]
  | .rol _, b => by cases b <;> simp [D.py, D.eq, PyData.eqv]
  | .dic _, b => by cases b <;> simp [D.py, D.eq, PyData.eqv]
  | .set _, b => by cases b <;> simp [D.py, D.eq, PyData.eqv]
  | .ty _, b => by cases b <;> simp [D.py, D.eq, PyData.eqv]
theorem eqs_py : ∀ xs ys : List D, PyData.eqvAll (pys xs) (pys ys) = eqs xs ys
  | [], [] => by simp [pys, eqs, PyData.eqvAll]
  | [], _ :: _ => by simp [pys, eqs, PyData.eqvAll]
  | _ :: _, [] => by simp [pys, eqs, PyData.eqvAll]
  | x :: xs, y :: ys => by simp only [pys, eqs, PyData.eqvAll, eq_py x y, eqs_py xs ys]
end
theorem any_py (d : D) : ∀ ds : List D, ((pys ds).any fun z => PyData.eqv z d.py) = ds.any fun z => D.eq z d
  | [] => rfl
  | x :: xs => by simp only [pys, List.any_cons, eq_py, any_py d xs]
theorem shaped_of {n : Nat} {d : D} (h : d.okE n = true) (hn : n ≤ 64) : SeqAt.shaped d.py = true := by
  obtain ⟨h1, h2⟩ := okE_py n d h
  unfold SeqAt.shaped
  simp [h1]; omega
end
section
variable {X : Cx}
/-- a comparison by data -/
def rCmp (K : PySem.W.Frag) (o : CmpOp) : R2 := fun x y H Q => ∃ a b k, RP K H x a ∧ RP K H y b ∧ cmpD o a b = some k ∧ Q (.bl k) H
def ltN (n : Nat) (x y : D) : Bool := match D.lt n x y with | some b => b | none => false
theorem ltAll_at {n : Nat} : ∀ {xs ys : List D} {j : Nat} {x y : D}, ltAll n xs ys = true → xs[j]? = some x → ys[j]? = some y → D.eq x y = false → ∃ b, D.lt n x y = some b
  | [], _, _, _, _, _, h, _, _ => by simp at h
  | _ :: _, [], _, _, _, _, _, h, _ => by simp at h
  | x :: xs, y :: ys, 0, _, _, h, e1, e2, e3 => by
    simp at e1 e2; subst e1 e2
    simp only [ltAll, Bool.and_eq_true, Bool.or_eq_true, e3] at h
    rcases h.1 with z | z
    · cases z
    · exact Option.isSome_iff_exists.mp z
  | x :: xs, y :: ys, j + 1, _, _, h, e1, e2, e3 => by
    simp only [ltAll, Bool.and_eq_true] at h
    exact ltAll_at h.2 (by simpa using e1) (by simpa using e2) e3
theorem lex_lts {n : Nat} {e r : Nat → Bool} {z : Bool} : ∀ (xs ys : List D) (i : Nat), (∀ (j : Nat) (x y : D), xs[j]? = some x → ys[j]? = some y → e (i + j) = D.eq x y ∧ (D.eq x y = false → r (i + j) = ltN n x y)) → z = decide (xs.length < ys.length) →
    Ob.lexAt e r z i (min xs.length ys.length) = lts n xs ys
  | [], [], _, _, hz => by simp [Ob.lexAt, lts, hz]
  | [], _ :: _, _, _, hz => by simp [Ob.lexAt, lts, hz]
  | _ :: _, [], _, _, hz => by simp [Ob.lexAt, lts, hz]
  | x :: xs, y :: ys, i, h, hz => by
    have e0 : min (x :: xs).length (y :: ys).length = min xs.length ys.length + 1 := by simp only [List.length_cons]; omega
    rw [e0, Ob.lexAt_succ]
    have h0 := h 0 x y rfl rfl
    simp only [Nat.add_zero] at h0
    rw [h0.1]
    cases q : D.eq x y with
    | true =>
      simp only [lts, q, if_true]
      exact lex_lts xs ys (i + 1) (fun j x' y' e1 e2 => by
        have := h (j + 1) x' y' (by simpa using e1) (by simpa using e2)
        rw [show i + (j + 1) = i + 1 + j by omega] at this
        exact this) (by rw [hz]; simp)
    | false =>
      simp only [lts, q]
      rw [if_neg (by simp)]
      simp only [Bool.false_eq_true, if_false]
      rw [h0.2 q]
      rfl
theorem pairEq_at {xs ys : List D} {j : Nat} {x y : D} (h1 : xs[j]? = some x) (h2 : ys[j]? = some y) : SeqAt.pairEq (pys xs) (pys ys) j = D.eq x y := by
  have g : ∀ (xs : List D) (j : Nat), (pys xs)[j]? = (xs[j]?).map D.py := fun xs => by
    induction xs with
    | nil => intro j; simp [pys]
    | cons a r ih => intro j; cases j with
      | zero => simp [pys]
      | succ j => simp [pys, ih j]
  have a1 : (pys xs)[j]? = some x.py := by rw [g, h1]; rfl
  have a2 : (pys ys)[j]? = some y.py := by rw [g, h2]; rfl
  have b1 : (pys xs).getD j .none = x.py := by simp [a1]
  have b2 : (pys ys).getD j .none = y.py := by simp [a2]
  unfold SeqAt.pairEq
  rw [b1, b2]
  exact eq_py x y
/-- < by data -/
theorem rcLt {pins : List (Addr × Obj)} {σ : L2.St} {H : Hp} {s : Shared} (I : Inv X pins σ H s) : ∀ (n : Nat) (a b : D) (c : Bool) (A : Around) (x y : V) (u v : Value), A.units + n + 64 < cLine → RP X.K H x a → RP X.K H y b → RelV x u → RelV y v → D.lt n a b = some c → Ob.RcOp .Lt A s u v c := by
  intro n
  induction n with
  | zero =>
    intro a b c A x y u v hu ra rb hx hy h
    cases ra <;> cases rb <;> simp only [D.lt, Option.some.injEq, reduceCtorEq] at h
    · subst h
      obtain ⟨t, rfl⟩ := hx
      obtain ⟨t', rfl⟩ := hy
      exact Ob.RcOp.lt_int _ _ _ _
    · subst h
      obtain ⟨t, rfl⟩ := hx
      obtain ⟨t', rfl⟩ := hy
      exact fun prog w E Q q => (PyProof.Rows.lt_str q : wpAny (model prog w) A (compareOp .Lt _ _) Q E s)
  | succ n ih =>
    intro a b c A x y u v hu ra rb hx hy h
    cases ra with
    | int i =>
      cases rb with
      | int j =>
        simp [D.lt] at h
        subst h
        obtain ⟨t, rfl⟩ := hx
        obtain ⟨t', rfl⟩ := hy
        exact Ob.RcOp.lt_int _ _ _ _
      | _ => simp [D.lt] at h
    | str i =>
      cases rb with
      | str j =>
        simp only [D.lt, Option.some.injEq] at h
        subst h
        obtain ⟨t, rfl⟩ := hx
        obtain ⟨t', rfl⟩ := hy
        exact fun prog w E Q q => (PyProof.Rows.lt_str q : wpAny (model prog w) A (compareOp .Lt _ _) Q E s)
      | _ => simp [D.lt] at h
    | @tup p xs ds h1 h2 =>
      cases rb with
      | @tup q ys es k1 k2 =>
        cases hx
        cases hy
        simp only [D.lt] at h
        obtain ⟨its, r1, p1, z1⟩ := I.tuple h1.t
        obtain ⟨its2, r2, p2, z2⟩ := I.tuple k1.t
        split at h
        · rename_i hok
          simp only [Bool.and_eq_true] at hok
          have hc : lts n ds es = c := Option.some.inj h
          obtain ⟨as, q1⟩ := Dp.readsAll I (pys ds) xs its (h2.dp hok.1.1) r1
          obtain ⟨bs, q2⟩ := Dp.readsAll I (pys es) ys its2 (k2.dp hok.1.2) r2
          have c1 := okEs_py 50 ds hok.1.1
          have c2 := okEs_py 50 es hok.1.2
          have len1 : its.length = ds.length := by rw [← r1.length, h2.len]
          have len2 : its2.length = es.length := by rw [← r2.length, k2.len]
          have at1 : ∀ j, j < its.length → ∃ d v, ds[j]? = some d ∧ xs[j]? = some v ∧ RP X.K H v d ∧ ∃ u, its[j]? = some u ∧ RelV v u := fun j hj => by
            have hd : j < ds.length := by omega
            obtain ⟨v, e1, e2⟩ := h2.get (List.getElem?_eq_getElem hd)
            obtain ⟨u, e3, e4⟩ := r1.get e1
            exact ⟨_, v, List.getElem?_eq_getElem hd, e1, e2, u, e3, e4⟩
          have at2 : ∀ j, j < its2.length → ∃ d v, es[j]? = some d ∧ ys[j]? = some v ∧ RP X.K H v d ∧ ∃ u, its2[j]? = some u ∧ RelV v u := fun j hj => by
            have hd : j < es.length := by omega
            obtain ⟨v, e1, e2⟩ := k2.get (List.getElem?_eq_getElem hd)
            obtain ⟨u, e3, e4⟩ := r2.get e1
            exact ⟨_, v, List.getElem?_eq_getElem hd, e1, e2, u, e3, e4⟩
          have R := Ob.RcOp.tuples_lt (A := A) (s := s) (l := p) (b := q) (items := its.toArray) (items2 := its2.toArray) (e := fun j => SeqAt.pairEq (pys ds) (pys es) j) (r := fun j => match ds[j]?, es[j]? with | some x, some y => ltN n x y | _, _ => false) p1 p2 (by omega)
            (fun j j1 j2 => by
              have := SeqAt.eqAt_readsAll (pys ds) (pys es) A.in1 s its its2 as bs q1 q2 c1.1 c2.1 (by
                have : min (PyData.depthAll (pys ds)) (PyData.depthAll (pys es)) ≤ PyData.depthAll (pys ds) := Nat.min_le_left _ _
                show A.units + 1 + _ < _
                omega) j (by simpa using j1) (by simpa using j2)
              simpa using this)
            (fun j j1 j2 hj => by
              obtain ⟨d1, v1, a1, a2, a3, u1, a4, a5⟩ := at1 j (by simpa using j1)
              obtain ⟨d2, v2, b1, b2, b3, u2, b4, b5⟩ := at2 j (by simpa using j2)
              have hne : D.eq d1 d2 = false := by rw [← pairEq_at a1 b1]; exact hj
              obtain ⟨b, hb⟩ := ltAll_at hok.2 a1 b1 hne
              have e1 : its.toArray[j] = u1 := by
                have := (List.getElem?_eq_some_iff.mp a4).2
                simpa using this
              have e2 : its2.toArray[j] = u2 := by
                have := (List.getElem?_eq_some_iff.mp b4).2
                simpa using this
              rw [e1, e2]
              simp only [a1, b1, ltN, hb]
              exact ih d1 d2 b A.in1 v1 v2 u1 u2 (by show A.units + 1 + n + 64 < _; omega) a3 b3 a5 b5 hb)
          have e1 := lex_lts (n := n) (e := fun j => SeqAt.pairEq (pys ds) (pys es) j) (r := fun j => match ds[j]?, es[j]? with | some x, some y => ltN n x y | _, _ => false) (z := decide (its.toArray.size < its2.toArray.size)) ds es 0
            (fun j x y a1 b1 => by
              rw [Nat.zero_add]
              refine ⟨pairEq_at a1 b1, fun _ => ?_⟩
              simp only [a1, b1]) (by simp [len1, len2])
          rw [show min its.toArray.size its2.toArray.size = min ds.length es.length by simp [len1, len2], e1, hc] at R
          exact R
        · cases h
      | _ => simp [D.lt] at h
    | _ => cases rb <;> simp [D.lt] at h
theorem op_cmp (o : CmpOp) (hu : X.A.units + 70 < cLine) : OpR X (compareOp o) (rCmp X.K o) := by
  intro pins s σ H x y v u Q I rx ry h
  obtain ⟨a, b, k, ha, hb, hk, q⟩ := h
  cases o with
  | Eq =>
    simp only [cmpD] at hk
    split at hk
    · rename_i ho
      simp only [Bool.and_eq_true] at ho
      cases hk
      exact op_eqD (by omega) pins s σ H x y v u Q I rx ry ⟨_, _, ha.dp ho.1, hb.dp ho.2, shaped_of ho.1 (by omega), shaped_of ho.2 (by omega), by rw [eq_py]; exact q⟩
    · cases hk
  | NotEq =>
    simp only [cmpD] at hk
    split at hk
    · rename_i ho
      simp only [Bool.and_eq_true] at ho
      cases hk
      exact op_neD (by omega) pins s σ H x y v u Q I rx ry ⟨_, _, ha.dp ho.1, hb.dp ho.2, shaped_of ho.1 (by omega), shaped_of ho.2 (by omega), by rw [eq_py]; exact q⟩
    · cases hk
  | Lt =>
    cases ha with
    | int i =>
      cases hb with
      | int j => simp only [cmpD, Option.some.injEq] at hk; subst hk; exact op_lt pins s σ H _ _ v u Q I rx ry ⟨i, j, rfl, rfl, q⟩
      | _ => simp [cmpD] at hk
    | tup h1 h2 =>
      cases hb with
      | tup k1 k2 =>
        simp only [cmpD] at hk
        exact rcLt I 4 _ _ _ X.A _ _ v u (by omega) (.tup h1 h2) (.tup k1 k2) rx ry hk X.prog X.w X.xe (EP X pins σ Q) ⟨.bl _, H, I, rfl, q⟩
      | _ => simp [cmpD] at hk
    | _ => cases hb <;> simp [cmpD] at hk
  | LtE =>
    cases ha with
    | int i =>
      cases hb with
      | int j => simp only [cmpD, Option.some.injEq] at hk; subst hk; exact op_le pins s σ H _ _ v u Q I rx ry ⟨i, j, rfl, rfl, q⟩
      | _ => simp [cmpD] at hk
    | _ => cases hb <;> simp [cmpD] at hk
  | Gt =>
    cases ha with
    | int i =>
      cases hb with
      | int j => simp only [cmpD, Option.some.injEq] at hk; subst hk; exact op_gt pins s σ H _ _ v u Q I rx ry ⟨i, j, rfl, rfl, q⟩
      | _ => simp [cmpD] at hk
    | _ => cases hb <;> simp [cmpD] at hk
  | GtE =>
    cases ha with
    | int i =>
      cases hb with
      | int j => simp only [cmpD, Option.some.injEq] at hk; subst hk; exact op_ge pins s σ H _ _ v u Q I rx ry ⟨i, j, rfl, rfl, q⟩
      | _ => simp [cmpD] at hk
    | _ => cases hb <;> simp [cmpD] at hk
  | Is =>
    cases hb with
    | non =>
      refine op_isN pins s σ H _ _ v u Q I rx ry ⟨rfl, ?_⟩
      cases ha <;> simp only [cmpD, Option.some.injEq] at hk <;> subst hk <;> simpa using q
    | bl j =>
      cases ha with
      | bl i => simp only [cmpD, Option.some.injEq] at hk; subst hk; exact op_isBl pins s σ H _ _ v u Q I rx ry ⟨i, j, rfl, rfl, by rw [← Bool.beq_eq_decide_eq]; exact q⟩
      | _ => simp [cmpD] at hk
    | _ => cases ha <;> simp [cmpD] at hk
  | IsNot =>
    cases hb with
    | non =>
      refine op_notN pins s σ H _ _ v u Q I rx ry ⟨rfl, ?_⟩
      cases ha <;> simp only [cmpD, Option.some.injEq] at hk <;> subst hk <;> simpa using q
    | bl j =>
      cases ha with
      | bl i => simp only [cmpD, Option.some.injEq] at hk; subst hk; exact op_notBl pins s σ H _ _ v u Q I rx ry ⟨i, j, rfl, rfl, by rw [← Bool.beq_eq_decide_eq]; exact q⟩
      | _ => simp [cmpD] at hk
    | _ => cases ha <;> simp [cmpD] at hk
  | In =>
    cases hb with
    | @lst p xs ds h1 h2 =>
      simp only [cmpD, inD] at hk
      split at hk
      · rename_i ho
        simp only [Bool.and_eq_true] at ho
        cases hk
        have hl : D.okE 51 (.lst ds) = true := by simp only [D.okE]; exact ho.2
        exact op_inD (by omega) pins s σ H x _ v u Q I rx ry ⟨a.py, pys ds, ha.dp ho.1, by simpa [D.py] using (RP.lst h1 h2).dp hl, shaped_of ho.1 (by omega), by simpa [D.py] using shaped_of hl (by omega), by rw [any_py]; exact q⟩
      · cases hk
    | @tup p xs ds h1 h2 =>
      simp only [cmpD, inD] at hk
      split at hk
      · rename_i ho
        simp only [Bool.and_eq_true] at ho
        cases hk
        have hl : D.okE 51 (.tup ds) = true := by simp only [D.okE]; exact ho.2
        obtain ⟨as, r1⟩ := Dp.reads I a.py x v (ha.dp ho.1) rx
        obtain ⟨bs, r2⟩ := Dp.reads I (D.tup ds).py _ u ((RP.tup h1 h2).dp hl) ry
        simp only [D.py] at r2
        refine SeqAt.in_tuple_reads r2 r1 (okEs_py 50 ds ho.2).1 (okE_py 50 a ho.1).1 ?_ ⟨.bl _, H, I, rfl, by rw [any_py]; exact q⟩
        have := (okE_py 50 a ho.1).2
        have : min (PyData.depthAll (pys ds)) a.py.depth ≤ a.py.depth := Nat.min_le_right _ _
        omega
      · cases hk
    | _ => simp [cmpD, inD] at hk
  | NotIn =>
    cases hb with
    | @lst p xs ds h1 h2 =>
      simp only [cmpD, inD] at hk
      split at hk
      · rename_i ho
        simp only [Bool.and_eq_true] at ho
        cases hk
        have hl : D.okE 51 (.lst ds) = true := by simp only [D.okE]; exact ho.2
        exact op_notInD (by omega) pins s σ H x _ v u Q I rx ry ⟨a.py, pys ds, ha.dp ho.1, by simpa [D.py] using (RP.lst h1 h2).dp hl, shaped_of ho.1 (by omega), by simpa [D.py] using shaped_of hl (by omega), by rw [any_py]; exact q⟩
      · cases hk
    | @tup p xs ds h1 h2 =>
      simp only [cmpD, inD] at hk
      split at hk
      · rename_i ho
        simp only [Bool.and_eq_true] at ho
        cases hk
        have hl : D.okE 51 (.tup ds) = true := by simp only [D.okE]; exact ho.2
        obtain ⟨as, r1⟩ := Dp.reads I a.py x v (ha.dp ho.1) rx
        obtain ⟨bs, r2⟩ := Dp.reads I (D.tup ds).py _ u ((RP.tup h1 h2).dp hl) ry
        simp only [D.py] at r2
        refine SeqAt.notIn_tuple_reads r2 r1 (okEs_py 50 ds ho.2).1 (okE_py 50 a ho.1).1 ?_ ⟨.bl _, H, I, rfl, by rw [any_py]; exact q⟩
        have := (okE_py 50 a ho.1).2
        have : min (PyData.depthAll (pys ds)) a.py.depth ≤ a.py.depth := Nat.min_le_right _ _
        omega
      · cases hk
    | _ => simp [cmpD, inD] at hk
end
end Fx

set_option Elab.async false
set_option linter.all false
set_option maxRecDepth 100000
/-! Fx: what an operation hands back; arithmetic and + by data. -/
namespace Fx
open PySem PySem.Spec PyProof.Rows L2
/-- what comes back: a value of the known heap; a new list; a new tuple -/
inductive NR (K : PySem.W.Frag) (F H : Hp) : T → V → Hp → Prop
  | val {d : D} {v : V} : RP K F v d → NR K F H (.fz d) v H
  | lst {p : Addr} {xs : List V} {ds : List D} : H p = none → RPs K F xs ds → NR K F H (ol ds) (.ref p) (upd H p (.lst xs))
  | tup {p : Addr} {xs : List V} {ds : List D} : H p = none → RPs K F xs ds → NR K F H (.fz (.tup ds)) (.ref p) (upd H p (.tup xs))
  | jnk {p q : Addr} {o : HO} {xs : List V} {ds : List D} : H p = none → (∀ ys, o ≠ .tup ys) → upd H p o q = none → RPs K F xs ds → NR K F H (ol ds) (.ref q) (upd (upd H p o) q (.lst xs))
section
variable {w : Wd} {K : PySem.W.Frag} {G : Gh} {L P : List Addr} {σ : SSt} {F F' H H' : Hp} {e e' : Env} {v : V} {t : T}
theorem Rel.prs {Q : List Addr} (R : Rel K G L (Q ++ P) e F σ H) (k : ∀ a, H a ≠ none → H' a = H a) : Prs P L H H' := fun x h => by
  rcases h with z | z
  · exact k x ((R.drop (Q := Q)).outP x z).2
  · exact k x (R.lv x z)
theorem Rel.prs0 (R : Rel K G L P e F σ H) (k : ∀ a, H a ≠ none → H' a = H a) : Prs P L H H' := Rel.prs (Q := []) R k
/-- a thing that nobody holds -/
theorem Rel.jnk {p : Addr} {o : HO} (R : Rel K G L P e F σ H) (hp : H p = none) (ho : ∀ xs, o ≠ .tup xs) : Rel K G L P e F σ (upd H p o) ∧ ∀ a, H a ≠ none → upd H p o a = H a := by
  obtain ⟨gp, g1, g2, g4, g3⟩ := R.env
  have fpn : F p = none := by
    cases e1 : F p with
    | none => rfl
    | some o => rw [R.same _ _ e1] at hp; cases hp
  have ne : ∀ a, H a ≠ none → a ≠ p := fun a ha z => ha (by rw [z]; exact hp)
  have keep : ∀ a, H a ≠ none → upd H p o a = H a := fun a ha => upd_ne (ne a ha)
  refine ⟨⟨fun a o e1 => ?_, ⟨gp, g1.frame (Same.refl F) fun a ha => ?_, g2, g4, fun a ha => ?_⟩, fun a ys e1 => ?_, R.sub, R.new, fun a o e1 e2 => ?_, fun a ha => ?_, fun a ha => by rw [keep a (R.lv a ha)]; exact R.lv a ha⟩, keep⟩
  · rw [upd_ne (ne_of_none e1 fpn)]; exact R.same _ _ e1
  · have := g3 a (by simp [ha])
    exact ⟨this.1, keep a this.2.1⟩
  · have := g3 a ha
    exact ⟨this.1, by rw [keep a this.2.1]; exact this.2.1, this.2.2⟩
  · by_cases z : a = p
    · subst z; rw [upd_same] at e1; exact absurd (Option.some.inj e1) (ho ys)
    · rw [upd_ne z] at e1; exact R.tups _ _ e1
  · have h1 := R.frm a o e1 e2
    rw [keep a (by rw [h1]; simp)]; exact h1
  · rw [keep a (R.live a ha)]; exact R.live a ha
theorem NR.rr (R : Rel K G L P e F σ H) (h : NR K F H t v H') : ∃ F', Same F F' ∧ RR K G L P σ (.t t) e F' H' v ∧ Prs P L H H' := by
  cases h with
  | val h => exact ⟨F, Same.refl F, ⟨[], .fz h, R⟩, Prs.refl⟩
  | lst hp h =>
    obtain ⟨R', h1, h2, h3⟩ := R.lst hp
    exact ⟨F, Same.refl F, ⟨[_], .own h1 upd_same (RTs.ofFz h), R'⟩, R.prs0 h2⟩
  | tup hp h =>
    obtain ⟨R', s, h2⟩ := R.tup hp
    exact ⟨_, s, ⟨[], .fz (.tup (SqU.of upd_same) (h.mn s)), R'⟩, R.prs0 fun a ha => (h2 a ha).1⟩
  | jnk hp ho hq h =>
    obtain ⟨R1, k1⟩ := R.jnk hp ho
    obtain ⟨R', h1, h2, h3⟩ := R1.lst hq
    exact ⟨F, Same.refl F, ⟨[_], .own h1 upd_same (RTs.ofFz h), R'⟩, R.prs0 fun a ha => by rw [h2 a (by rw [k1 a ha]; exact ha), k1 a ha]⟩
theorem scal_fz (h : t.scal = true) : ∃ d, t = .fz d ∧ ∀ F v, RP K H v d → RP K F v d := by
  cases t with
  | fz d => refine ⟨d, rfl, fun F v r => ?_⟩; cases r <;> first | exact .non | exact .bl _ | exact .int _ | exact .str _ | (simp [T.scal] at h)
  | own _ => simp [T.scal] at h
  | ownd _ => simp [T.scal] at h
  | tup _ => simp [T.scal] at h
theorem NR.scal (h : NR K H H t v H') (hs : t.scal = true) : H' = H ∧ ∃ d, t = .fz d ∧ ∀ F, RP K F v d := by
  cases h with
  | val r => exact ⟨rfl, _, rfl, fun F => by cases r <;> first | exact .non | exact .bl _ | exact .int _ | exact .str _ | (simp [T.scal] at hs)⟩
  | lst _ _ => simp [T.scal, ol] at hs
  | tup _ _ => simp [T.scal] at hs
  | jnk _ _ _ _ => simp [T.scal, ol] at hs
end
section
variable {X : Cx}
def rBin (K : PySem.W.Frag) (o : Operator) : R2 := fun x y H Q => ∃ F a b t, RK K F H x a ∧ RK K F H y b ∧ (∀ a xs, H a = some (.tup xs) → F a = some (.tup xs)) ∧ binD o a b = some t ∧ ∀ v H', NR K F H t v H' → Q v H'
theorem sizeL_eq : sizeL = sizeLine := by rw [sizeLine_eq]; rfl
theorem SqU.dn {K : PySem.W.Frag} {F H : Hp} {a : Addr} {xs : List V} (ht : ∀ a xs, H a = some (.tup xs) → F a = some (.tup xs)) (h : SqU K H a xs) : SqU K F a xs := h.elim (fun h => .inl (ht _ _ h)) .inr
theorem op_bin (o : Operator) : OpR X (binaryOp o) (rBin X.K o) := by
  intro pins s σ H x y v u Q I rx ry h
  obtain ⟨F, a, b, t, ha, hb, ht, hk, q⟩ := h
  have qv : ∀ {d : D} {v : V}, t = .fz d → RP X.K F v d → Q v H := fun e r => q _ _ (by rw [e]; exact .val r)
  cases a with
  | int i =>
    cases (show RP X.K F x (.int i) from ha)
    cases b with
    | int j =>
      cases (show RP X.K F y (.int j) from hb)
      cases o with
      | Add => simp only [binD, Option.some.injEq] at hk; exact op_add pins s σ H _ _ v u Q I rx ry ⟨i, j, rfl, rfl, qv hk.symm (.int _)⟩
      | Sub => simp only [binD, Option.some.injEq] at hk; exact op_sub pins s σ H _ _ v u Q I rx ry ⟨i, j, rfl, rfl, qv hk.symm (.int _)⟩
      | Mult =>
        simp only [binD] at hk
        split at hk
        · rename_i hc
          simp only [Option.some.injEq] at hk
          refine op_mul pins s σ H _ _ v u Q I rx ry ⟨i, j, rfl, rfl, ?_, qv hk.symm (.int _)⟩
          unfold mulOk at hc
          simpa [CMul, Bool.or_eq_true, Bool.and_eq_true] using hc
        · cases hk
      | FloorDiv =>
        simp only [binD] at hk
        split at hk
        · rename_i hc
          simp only [Option.some.injEq] at hk
          exact op_fdiv pins s σ H _ _ v u Q I rx ry ⟨i, j, rfl, rfl, hc, qv hk.symm (.int _)⟩
        · cases hk
      | Mod =>
        simp only [binD] at hk
        split at hk
        · rename_i hc
          simp only [Option.some.injEq] at hk
          exact op_mod pins s σ H _ _ v u Q I rx ry ⟨i, j, rfl, rfl, hc, qv hk.symm (.int _)⟩
        · cases hk
      | Pow =>
        simp only [binD] at hk
        split at hk
        · rename_i hc
          simp only [Option.some.injEq] at hk
          exact op_pow pins s σ H _ _ v u Q I rx ry ⟨i, j, rfl, rfl, hc, qv hk.symm (.int _)⟩
        · cases hk
      | _ => simp [binD] at hk
    | _ => cases o <;> simp [binD] at hk
  | str z =>
    cases (show RP X.K F x (.str z) from ha)
    cases b with
    | str z2 =>
      cases (show RP X.K F y (.str z2) from hb)
      cases o with
      | Add =>
        simp only [binD] at hk
        split at hk
        · rename_i hc
          simp only [Option.some.injEq] at hk
          exact op_add_str pins s σ H _ _ v u Q I rx ry ⟨z, z2, rfl, rfl, by rw [← sizeL_eq]; exact hc, qv hk.symm (.str _)⟩
        · cases hk
      | _ => simp [binD] at hk
    | _ => cases o <;> simp [binD] at hk
  | lst ds =>
    obtain ⟨p, xs, rfl, h1, h2⟩ := ha
    cases b with
    | lst es =>
      obtain ⟨p2, ys, rfl, k1, k2⟩ := hb
      cases o with
      | Add =>
        simp only [binD] at hk
        split at hk
        · rename_i hc
          simp only [Option.some.injEq] at hk
          refine op_cat pins s σ H _ _ v u Q I rx ry ⟨p, p2, xs, ys, rfl, rfl, h1, k1, by rw [h2.len, k2.len, ← sizeL_eq]; exact hc, fun p3 hp => q _ _ ?_⟩
          rw [← hk]
          exact .lst hp (h2.app k2)
        · cases hk
      | _ => simp [binD] at hk
    | int k =>
      cases (show RP X.K F y (.int k) from hb)
      cases o with
      | Mult =>
        simp only [binD] at hk
        split at hk
        · rename_i hc
          simp only [Option.some.injEq] at hk
          refine op_rep pins s σ H _ _ v u Q I rx ry ⟨p, k, xs, rfl, rfl, h1, hc.1, hc.2.1, by rw [h2.len, ← sizeL_eq]; exact hc.2.2, fun p3 hp => q _ _ ?_⟩
          rw [← hk]
          refine .lst hp ?_
          generalize k.toNat = m
          induction m with
          | zero => simpa using RPs.nil
          | succ m ih => rw [List.replicate_succ, List.flatten_cons, List.replicate_succ, List.flatten_cons]; exact h2.app ih
        · cases hk
      | _ => simp [binD] at hk
    | _ => cases o <;> simp [binD] at hk
  | tup ds =>
    obtain ⟨p, xs, rfl, h1, h2⟩ := ha
    cases b with
    | tup es =>
      obtain ⟨p2, ys, rfl, k1, k2⟩ := hb
      cases o with
      | Add =>
        simp only [binD] at hk
        split at hk
        · rename_i hc
          simp only [Option.some.injEq] at hk
          refine op_catA pins s σ H _ _ v u Q I rx ry ⟨p, p2, xs, ys, rfl, rfl, h1.t, k1.t, by rw [h2.len, k2.len, ← sizeL_eq]; exact hc, fun e => ?_, fun e1 e => ?_, fun e1 e2 p3 hp => q _ _ ?_⟩
          · subst e
            cases h2
            exact qv hk.symm (.tup (k1.dn ht) (by simpa using k2))
          · subst e
            cases k2
            exact qv hk.symm (.tup (h1.dn ht) (by simpa using h2))
          · rw [← hk]
            exact .tup hp (h2.app k2)
        · cases hk
      | _ => simp [binD] at hk
    | _ => cases o <;> simp [binD] at hk
  | _ => cases b <;> cases o <;> simp [binD] at hk
end
end Fx

set_option Elab.async false
set_option linter.all false
set_option maxRecDepth 100000
/-! Fx expressions, but calls and comprehensions. -/
namespace Fx
open PySem PySem.Spec PyProof.Rows L2
section
variable {w : Wd} {G : Gh} {L P : List Addr} {σ : SSt} {F F' H H' : Hp} {e e' : Env}
/-- the next of several operands, those ahead pending -/
theorem Po.next {α' β' : Type} {rep' : α' → Env → Hp → Hp → β' → Prop} {rs : List R} {vs : List V} {x : E} {f : R → Env → Out α'} {Q : β' → Hp → Prop} {Q' : V → Hp → Prop} (hR : RRs w.K G L P σ rs e F H vs)
    (h : Po w G L P σ rep' F H ((ev w.C x e).stl.bnd f) Q) (k : ∀ r e' v F' H', RRs w.K G L P σ (rs ++ [r]) e' F' H' (vs ++ [v]) → Same F F' → Prs P L H H' → Po w G L P σ rep' F' H' (f r e') Q → Q' v H') : tE w x σ H Q' := by
  obtain ⟨fps, hp, R⟩ := hR
  refine ⟨G, L, fps ++ P, e, F, R, ?_⟩
  cases eo : ev w.C x e with
  | ok a e' =>
    intro v F2 H2 rr s2 p2
    rw [eo] at h
    simp only [Out.stl] at h
    cases es : settle a e' with
    | none => rw [es] at h; exact h.elim
    | some p =>
      obtain ⟨r', e1⟩ := p
      rw [es] at h
      obtain ⟨F3, s3, R3, h3⟩ := RR.settle (w := w) rr es
      obtain ⟨fq, q1, q2⟩ := R3.one h3
      have p3 : Prs P L H H2 := p2.less fun x m => by simp [m]
      refine k r' e1 v F3 H2 ⟨fps ++ fq, (hp.frame (s2.trans s3) fun a ha => ⟨(q2.outP a (by simp [ha])).1, p2 a (.inl (by simp [ha]))⟩).app q1, q2.perm ?_⟩ (s2.trans s3) p3 (Po.base h (s2.trans s3) p3)
      rw [List.append_assoc]
      exact List.perm_append_comm_assoc _ _ _
  | exc c fs e' =>
    rw [eo] at h
    exact fun F' H' cls d r x s p => h F' H' cls d (Rel.drop r) x s (p.less fun x m => by simp [m])
  | bad => rw [eo] at h; exact h
/-- a result that is told -/
theorem Po.fin {β : Type} {x : R} {Q : V → Hp → Prop} (h : Po w G L P σ (rpR w G L P σ) F H (.ok x e) Q) {v : V} (r : ∃ F', Same F F' ∧ RR w.K G L P σ x e F' H' v ∧ Prs P L H H') : Q v H' := by
  obtain ⟨F', s, r, p⟩ := r
  exact h v F' H' r s p
theorem Po.val {d : D} {Q : V → Hp → Prop} {v : V} (h : Po w G L P σ (rpR w G L P σ) F H (.ok (.t (.fz d)) e) Q) (R : Rel w.K G L P e F σ H) (r : RP w.K F v d) : Q v H := h v F H ⟨[], .fz r, R⟩ (Same.refl F) Prs.refl
/-- what an operation by data hands back -/
theorem Po.nr {t : T} {Q : V → Hp → Prop} {v : V} (h : Po w G L P σ (rpR w G L P σ) F H (.ok (.t t) e) Q) (R : Rel w.K G L P e F σ H) (r : NR w.K F H t v H') : Q v H' := by
  obtain ⟨F', s, r, p⟩ := NR.rr R r
  exact h v F' H' r s p
end
section
variable {tb : Tb} {w : Wd} {k : Nat} {sc ws : Scope} {X : Cx}
/-! ### constants and names -/
def cOk : D → Const → Bool
  | .non, .none => true
  | .bl a, .bool b => a == b
  | .int a, .int b => a == b
  | .str a, .str b => decide (a = b)
  | _, _ => false
theorem pe_c {d : D} {c : Const} {j : Nat} {pos : Pos} (h : cOk d c = true) : PE X (.Constant c j pos) (tE w (.c d)) := by
  have key : ∀ {σ : L2.St} {H : Hp} {Q : V → Hp → Prop} {v : V}, tE w (.c d) σ H Q → (∀ F, RP w.K F v d) → Q v H := fun ⟨G, L, P, e, F, R, h⟩ r => Po.val h R (r F)
  cases d with
  | non => cases c <;> simp [cOk] at h; exact pe_non.imp' fun σ H Q q => key q fun _ => .non
  | bl a => cases c <;> simp [cOk] at h; subst h; exact pe_bl.imp' fun σ H Q q => key q fun _ => .bl _
  | int a => cases c <;> simp [cOk] at h; subst h; exact pe_int.imp' fun σ H Q q => key q fun _ => .int _
  | str a => cases c <;> simp [cOk] at h; subst h; exact pe_str.imp' fun σ H Q q => key q fun _ => .str _
  | _ => cases c <;> simp [cOk] at h
def visB (sc : Scope) (x : Str) : Bool := match sc.names.lookup x with
  | some .local => true
  | some .cell => true
  | some .free => true
  | _ => false
theorem vis_of {sc : Scope} {x : Str} (h : visB sc x = true) : Vis sc x := by
  unfold visB at h
  unfold Vis
  split at h <;> first | (rename_i q; simp [q]) | cases h
def dunder (x : Str) : Bool := (x == ("__debug__" : Str)) || (x == ("__classdict__" : Str))
theorem pe_v {i : Nat} {x : Str} {pos : Pos} (g : Gd tb w k sc ws X) (hN : tb.N[i]? = some x) (hv : visB sc x = true) (hd : dunder x = false) : PE X (.Name x pos) (tE w (.v i)) := by
  unfold dunder at hd
  rw [Bool.or_eq_false_iff] at hd
  refine (pe_var (i := i) (by rw [g.N]; exact hN) (by rw [g.sc]; exact vis_of hv) hd.1 hd.2).imp' fun σ H Q h => ?_
  obtain ⟨G, L, P, e, F, R, h⟩ := h
  obtain ⟨fp, r1, _⟩ := R.env
  have go : ∀ (t : T), slotT e i = some t → (∀ d, t ≠ .fz d) → Po w G L P σ (rpR w G L P σ) F H (.ok (.p i []) e) Q → tVar i σ H Q := fun t es _ h => by
    obtain ⟨v, q, e1, _⟩ := r1.slot es
    exact ⟨v, e1, h v F H ⟨R, v, e1, .nil⟩ (Same.refl F) Prs.refl⟩
  have gof : ∀ (d : D), slotT e i = some (.fz d) → Po w G L P σ (rpR w G L P σ) F H (.ok (.t (.fz d)) e) Q → tVar i σ H Q := fun d es h => by
    obtain ⟨v, q, e1, r, _⟩ := r1.slot es
    cases r with
    | fz r => exact ⟨v, e1, Po.val h R r⟩
  simp only [ev] at h
  cases es : e[i]? with
  | none => rw [es] at h; exact h.elim
  | some s =>
    rw [es] at h
    cases s with
    | un => exact h.elim
    | is t => cases t with
      | fz d => exact gof d (slotT_is es) h
      | own _ => exact go _ (slotT_is es) (fun _ z => nomatch z) h
      | ownd _ => exact go _ (slotT_is es) (fun _ z => nomatch z) h
      | tup _ => exact go _ (slotT_is es) (fun _ z => nomatch z) h
    | lk t => cases t with
      | fz d => exact gof d (slotT_lk es) h
      | own _ => exact go _ (slotT_lk es) (fun _ z => nomatch z) h
      | ownd _ => exact go _ (slotT_lk es) (fun _ z => nomatch z) h
      | tup _ => exact go _ (slotT_lk es) (fun _ z => nomatch z) h
def gloB (sc : Scope) (x : Str) : Bool := match sc.names.lookup x with
  | some .globalImplicit => true
  | _ => false
theorem glo_of (g : Gd tb w k sc ws X) {x : Str} (h : gloB sc x = true) : Gl X x := by
  unfold gloB at h
  show X.env.scope.names.lookup x = some .globalImplicit
  rw [g.sc]
  split at h
  · assumption
  · cases h
theorem pe_g {n : Nat} {x : Str} {pos : Pos} (g : Gd tb w k sc ws X) (hn : tb.gnm n = some x) (hg : gloB sc x = true) (hd : dunder x = false) : PE X (.Name x pos) (tE w (.g n)) := by
  unfold dunder at hd
  rw [Bool.or_eq_false_iff] at hd
  cases eg : w.C.gt n with
  | none => exact ⟨fun pins s σ H Q I ⟨G, L, P, e, F, R, h⟩ => by simp only [ev, eg] at h; exact h.elim⟩
  | some d =>
    obtain ⟨x', v, u, e1, e2, e3, e4⟩ := g.gts n d eg
    rw [hn] at e1; cases e1
    refine (pe_glob (glo_of g hg) e2 e3 hd.1).imp' fun σ H Q h => ?_
    obtain ⟨G, L, P, e, F, R, h⟩ := h
    simp only [ev, eg] at h
    exact Po.val h R (by rw [← g.K]; exact e4 F)
/-- a built-in type by its name -/
theorem pe_ty {n : String} {x : Str} {pos : Pos} (g : Gd tb w k sc ws X) (hx : x = Str.ofString n) (hn : n ∈ ["int", "bool", "str", "tuple", "list", "dict"]) (hg : gloB sc x = true) : PE X (.Name x pos) (tE w (.c (.ty n))) := by
  subst hx
  have hb : n ∈ blts := by
    simp only [List.mem_cons, List.not_mem_nil, or_false] at hn
    rcases hn with rfl | rfl | rfl | rfl | rfl | rfl <;> decide
  have hv : bootBuiltins (Str.ofString n) = some (.type n) ∧ Str.ofString n ≠ "__name__" ∧ (Str.ofString n == ("__debug__" : Str)) = false := by
    simp only [List.mem_cons, List.not_mem_nil, or_false] at hn
    rcases hn with rfl | rfl | rfl | rfl | rfl | rfl <;> exact ⟨by decide +kernel, by decide, by decide⟩
  refine (pe_bltn (v := .ty n) (glo_of g hg) (g.blt n hb) hv.1 rfl hv.2.1 hv.2.2).imp' fun σ H Q h => ?_
  obtain ⟨G, L, P, e, F, R, h⟩ := h
  exact Po.val h R (.ty n)

/-! ### operators -/
theorem Gd.hu (g : Gd tb w k sc ws X) : X.A.units + 100 < cLine := by have := g.room.un; omega
theorem binR_run {G : Gh} {L P : List Addr} {σ : SSt} {F H : Hp} {e : Env} {o : Operator} {l r : R} {x y : V} {Q : V → Hp → Prop} (R : RRs w.K G L P σ [l, r] e F H [x, y]) (h : Po w G L P σ (rpR w G L P σ) F H (binR o l r e) Q) : rBin w.K o x y H Q := by
  unfold binR at h
  cases e1 : rd e l with
  | none => rw [e1] at h; exact h.elim
  | some a =>
    cases e2 : rd e r with
    | none => rw [e1, e2] at h; exact h.elim
    | some b =>
      rw [e1, e2] at h
      simp only at h
      have e3 : rds e [l, r] = some [a, b] := by simp [rds, e1, e2]
      have rp := R.rds e3
      cases et : binD o a b with
      | none => rw [et] at h; exact h.elim
      | some t =>
        rw [et] at h
        simp only at h
        obtain ⟨fps, _, R0⟩ := id R
        have R1 := R0.drop
        split at h
        · rename_i hs
          cases rp with
          | cons r1 r2 => cases r2 with
            | cons r2 _ =>
              refine ⟨H, a, b, t, r1.rk (Same.refl H), r2.rk (Same.refl H), fun _ _ z => z, et, fun v H' n => ?_⟩
              obtain ⟨rfl, d, rfl, n2⟩ := n.scal hs
              exact Po.val h R1 (n2 F)
        · cases ek : kidsRs [l, r] e with
          | none => rw [ek] at h; exact h.elim
          | some e' =>
            rw [ek] at h
            obtain ⟨F1, s1, k1, R2⟩ := R.kids e3 ek
            cases k1 with
            | cons k1 k2 => cases k2 with
              | cons k2 _ =>
                refine ⟨F1, a, b, t, k1, k2, R2.tups, et, fun v H' n => ?_⟩
                exact Po.nr (Po.base h s1 Prs.refl) R2 n
theorem pe_binE {o : Operator} {a b : E} {l r : Expr} {pos : Pos} (g : Gd tb w k sc ws X) (ha : PE X l (tE w a)) (hb : PE X r (tE w b)) : PE X (.BinOp l o r pos) (tE w (.bin o a b)) := by
  refine (pe_op (op_bin o) ha hb).imp' fun σ H Q h => ?_
  obtain ⟨G, L, P, e, F, R, h⟩ := h
  simp only [ev] at h
  refine Po.next (RRs.nil R) h fun l e1 x F1 H1 R1 s1 p1 h1 => ?_
  refine Po.next R1 h1 fun r e2 y F2 H2 R2 s2 p2 h2 => ?_
  rw [g.K]
  exact binR_run R2 h2
theorem pe_negE {a : E} {l : Expr} {pos : Pos} (ha : PE X l (tE w a)) : PE X (.UnaryOp .USub l pos) (tE w (.neg a)) := by
  refine (pe_un un_neg ha).imp' fun σ H Q h => ?_
  obtain ⟨G, L, P, e, F, R, h⟩ := h
  simp only [ev] at h
  refine ⟨G, L, P, e, F, R, Po.bnd h fun r e1 v F1 H1 _ R1 s1 p1 h1 => ?_⟩
  have R1 : RR w.K G L P σ r e1 F1 H1 v := R1
  split at h1
  · rename_i i er
    cases R1.rd er
    exact ⟨i, rfl, Po.val h1 R1.rel' (.int _)⟩
  · exact h1.elim

/-! ### comparisons -/
def isSet : Expr → Bool
  | .Set _ _ _ => true
  | _ => false
theorem marks_of {op : CmpOp} {b : Expr} (h : isSet b = false) : behindInMarks op b = false := by cases b <;> first | rfl | cases h
/-- a chain from a value on -/
structure PCh (X : Cx) (ops : List CmpOp) (bs : List Expr) (t : V → SSt → Hp → (Bool → Hp → Prop) → Prop) : Prop where
  val : ∀ (pos : Pos) (pins : List (Addr × Obj)) (s : Shared) (σ : L2.St) (H : Hp) (x : V) (lv : Value) (Q : Bool → Hp → Prop), Inv X pins σ H s → RelV x lv → t x σ H Q →
    wpAny (model X.prog X.w) X.A (compareChain pos lv ops (evalEach bs X.env)) (EP X pins σ fun y H' => ∃ c, y = .bl c ∧ Q c H') X.xe s
  tst : ∀ (pos : Pos) (pins : List (Addr × Obj)) (s : Shared) (σ : L2.St) (H : Hp) (x : V) (lv : Value) (Q : Bool → Hp → Prop), Inv X pins σ H s → RelV x lv → t x σ H Q →
    wpAny (model X.prog X.w) X.A (testChain pos lv ops (evalEach bs X.env)) (TP X pins σ Q) X.xe s
end
end Fx

set_option Elab.async false
set_option linter.all false
set_option maxRecDepth 100000
/-! Fx expressions: comparisons, tests, displays, subscripts. -/
namespace Fx
open PySem PySem.Spec PyProof.Rows L2
section
variable {tb : Tb} {w : Wd} {k : Nat} {sc ws : Scope} {X : Cx}
def tCh (w : Wd) (r : Cs) : V → SSt → Hp → (Bool → Hp → Prop) → Prop := fun x σ H Q => ∃ G L P e F l, RRs w.K G L P σ [l] e F H [x] ∧ Po w G L P σ (rpA w G L P σ) F H (evc w.C r l e) Q
theorem RRs.lose {K : PySem.W.Frag} {G : Gh} {L P : List Addr} {σ : SSt} {e : Env} {F H : Hp} {l r : R} {x y : V} (R : RRs K G L P σ [l, r] e F H [x, y]) : RRs K G L P σ [r] e F H [y] := by
  obtain ⟨fps, h, R⟩ := R
  cases h with
  | @t _ _ fp _ _ fq a h =>
    refine ⟨_, h, Rel.drop (Q := fp) ?_⟩
    rw [← List.append_assoc]; exact R
  | p a h => exact ⟨_, h, R⟩
theorem cmpR_run {α : Type} {G : Gh} {L P : List Addr} {σ : SSt} {F H : Hp} {e : Env} {o : CmpOp} {l r : R} {x y : V} {f : Bool → Env → Out α} {β : Type} {rep : α → Env → Hp → Hp → β → Prop} {Q : β → Hp → Prop} {Q' : Bool → Hp → Prop}
    (R : RRs w.K G L P σ [l, r] e F H [x, y]) (h : Po w G L P σ rep F H ((cmpR o l r e).bnd f) Q) (k : ∀ c, Po w G L P σ rep F H (f c e) Q → Q' c H) : rCmp w.K o x y H fun z H' => ∃ c, z = .bl c ∧ Q' c H' := by
  unfold cmpR at h
  cases e1 : rd e l with
  | none => rw [e1] at h; exact h.elim
  | some a =>
    cases e2 : rd e r with
    | none => rw [e1, e2] at h; exact h.elim
    | some b =>
      rw [e1, e2] at h
      simp only at h
      have rp := R.rds (ds := [a, b]) (by simp [rds, e1, e2])
      cases rp with
      | cons r1 r2 => cases r2 with
        | cons r2 _ =>
          cases et : cmpD o a b with
          | none => rw [et] at h; exact h.elim
          | some c => rw [et] at h; exact ⟨a, b, c, r1, r2, et, c, rfl, k c h⟩
theorem pch_one {o : CmpOp} {b : E} {y : Expr} (g : Gd tb w k sc ws X) (hb : PE X y (tE w b)) : PCh X [o] [y] (tCh w (.one o b)) := by
  have key : ∀ {σ : SSt} {H : Hp} {x : V} {Q : Bool → Hp → Prop}, tCh w (.one o b) x σ H Q → tE w b σ H fun u H1 => rCmp w.K o x u H1 fun z H' => ∃ c, z = .bl c ∧ Q c H' := fun {σ H x Q} ⟨G, L, P, e, F, l, R, h⟩ => by
    simp only [evc] at h
    refine Po.next R h fun r e1 u F1 H1 R1 s1 p1 h1 => ?_
    have h2 : Po w G L P σ (rpA w G L P σ) F1 H1 ((cmpR o l r e1).bnd fun c e2 => Out.ok c e2) Q := by
      cases q : cmpR o l r e1 with
      | ok c e2 => rw [q] at h1; exact h1
      | exc c fs e2 => rw [q] at h1; exact h1
      | bad => rw [q] at h1; exact h1
    refine cmpR_run R1 h2 fun c h3 => ?_
    obtain ⟨fps, _, R2⟩ := R1
    exact h3 c F1 H1 ⟨rfl, R2.drop⟩ (Same.refl _) Prs.refl
  refine ⟨fun pos pins s σ H x lv Q I rx h => ?_, fun pos pins s σ H x lv Q I rx h => ?_⟩
  · refine chain_last (thn (hb.run pins s σ H _ I (key h)) fun u s1 ⟨y1, H1, I1, r1, q1⟩ => ?_)
    rw [← g.K] at q1
    exact op_cmp o (by have := g.hu; omega) pins s1 σ H1 x y1 lv u _ I1 rx r1 q1
  · refine test_last (thn (hb.run pins s σ H _ I (key h)) fun u s1 ⟨y1, H1, I1, r1, q1⟩ => ?_)
    rw [← g.K] at q1
    refine thn (op_cmp o (by have := g.hu; omega) pins s1 σ H1 x y1 lv u _ I1 rx r1 q1) fun c s2 ⟨z, H2, I2, r2, c', e2, q2⟩ => ?_
    subst e2
    cases r2
    exact wpAny_truthy_bool ⟨H2, I2, q2⟩
theorem pch_more {o o2 : CmpOp} {ops : List CmpOp} {b : E} {r : Cs} {y z : Expr} {ys : List Expr} (g : Gd tb w k sc ws X) (hb : PE X y (tE w b)) (hr : PCh X (o2 :: ops) (z :: ys) (tCh w r)) : PCh X (o :: o2 :: ops) (y :: z :: ys) (tCh w (.more o b r)) := by
  have key : ∀ {σ : SSt} {H : Hp} {x : V} {Q : Bool → Hp → Prop}, tCh w (.more o b r) x σ H Q → tE w b σ H fun u H1 => rCmp w.K o x u H1 fun z H' => ∃ c, z = .bl c ∧ if c = true then tCh w r u σ H' Q else Q false H' := fun {σ H x Q} ⟨G, L, P, e, F, l, R, h⟩ => by
    simp only [evc] at h
    refine Po.next R h fun r2 e1 u F1 H1 R1 s1 p1 h1 => ?_
    refine cmpR_run R1 h1 fun c h3 => ?_
    cases c with
    | true =>
      simp only [if_true] at h3 ⊢
      exact ⟨G, L, P, e1, F1, r2, R1.lose, h3⟩
    | false =>
      simp only [Bool.false_eq_true, if_false] at h3 ⊢
      obtain ⟨fps, _, R2⟩ := R1
      exact h3 false F1 H1 ⟨rfl, R2.drop⟩ (Same.refl _) Prs.refl
  refine ⟨fun pos pins s σ H x lv Q I rx h => ?_, fun pos pins s σ H x lv Q I rx h => ?_⟩
  · refine chain_link (thn (hb.run pins s σ H _ I (key h)) fun u s1 ⟨y1, H1, I1, r1, q1⟩ => ?_)
    rw [← g.K] at q1
    refine thn (op_cmp o (by have := g.hu; omega) pins s1 σ H1 x y1 lv u _ I1 rx r1 q1) fun c s2 ⟨z, H2, I2, r2, c', e2, q2⟩ => ?_
    subst e2
    cases r2
    refine wpAny_truthy_bool ?_
    cases c' with
    | true => exact ite_tt (hr.val pos pins s2 σ H2 y1 u Q I2 r1 (by simpa using q2))
    | false => exact ite_ff ⟨.bl false, H2, I2, rfl, false, rfl, by simpa using q2⟩
  · refine test_link (thn (hb.run pins s σ H _ I (key h)) fun u s1 ⟨y1, H1, I1, r1, q1⟩ => ?_)
    rw [← g.K] at q1
    refine thn (op_cmp o (by have := g.hu; omega) pins s1 σ H1 x y1 lv u _ I1 rx r1 q1) fun c s2 ⟨z, H2, I2, r2, c', e2, q2⟩ => ?_
    subst e2
    cases r2
    refine wpAny_truthy_bool ?_
    cases c' with
    | true => exact ite_tt (hr.tst pos pins s2 σ H2 y1 u Q I2 r1 (by simpa using q2))
    | false => exact ite_ff ⟨H2, I2, by simpa using q2⟩
theorem cmp_key {a : E} {r : Cs} {σ : SSt} {H : Hp} {α β : Type} {G : Gh} {L P : List Addr} {e : Env} {F : Hp} {rep : α → Env → Hp → Hp → β → Prop} {f : Bool → Env → Out α} {Q : β → Hp → Prop} {Q' : Bool → Hp → Prop} (R : Rel w.K G L P e F σ H)
    (h : Po w G L P σ rep F H ((ev w.C a e).stl.bnd fun l e1 => (evc w.C r l e1).bnd f) Q) (k : ∀ c e' F' H', Rel w.K G L P e' F' σ H' → Po w G L P σ rep F' H' (f c e') Q → Q' c H') : tE w a σ H fun x H1 => tCh w r x σ H1 Q' := by
  refine Po.next (RRs.nil R) h fun l e1 x F1 H1 R1 s1 p1 h1 => ?_
  exact ⟨G, L, P, e1, F1, l, R1, Po.bnd h1 fun c e2 b F2 H2 _ ⟨e3, R2⟩ s2 p2 h2 => by subst e3; exact k _ e2 F2 H2 R2 h2⟩
theorem pe_cmpE {a : E} {r : Cs} {l : Expr} {ops : List CmpOp} {bs : List Expr} {pos : Pos} (ha : PE X l (tE w a)) (hc : PCh X ops bs (tCh w r)) (hm : lastMarks ops bs = false) : PE X (.Compare l ops bs pos) (tE w (.cmp a r)) := by
  refine ⟨fun pins s σ H Q I ⟨G, L, P, e, F, R, h⟩ => ?_⟩
  show wpAny (model X.prog X.w) X.A (do compareChain pos (← eval l X.env) ops (markedEach ops bs (evalEach bs X.env))) (EP X pins σ Q) X.xe s
  rw [markedEach_of_false _ _ _ hm]
  simp only [ev] at h
  refine wpAny_bind (thn (ha.run pins s σ H _ I (cmp_key (Q' := fun c H' => Q (.bl c) H') R h fun c e' F' H' R' h' => Po.val h' R' (.bl _))) fun v s1 ⟨x, H1, I1, r1, q1⟩ => ?_)
  exact thn (hc.val pos pins s1 σ H1 x v _ I1 r1 q1) fun u s2 ⟨y, H2, I2, r2, c, e2, q2⟩ => ⟨y, H2, I2, r2, by rw [e2]; exact q2⟩
theorem pt_cmpE {a : E} {r : Cs} {l : Expr} {ops : List CmpOp} {bs : List Expr} {pos : Pos} (ha : PE X l (tE w a)) (hc : PCh X ops bs (tCh w r)) (hm : lastMarks ops bs = false) : PT X (.Compare l ops bs pos) (tB w (.cmp a r)) := by
  refine ⟨fun pins s σ H Q I ⟨G, L, P, e, F, R, h⟩ => ?_⟩
  show wpAny (model X.prog X.w) X.A (do testChain pos (← eval l X.env) ops (markedEach ops bs (evalEach bs X.env))) (TP X pins σ Q) X.xe s
  rw [markedEach_of_false _ _ _ hm]
  have h' : Po w G L P σ (rpA w G L P σ) F H ((ev w.C a e).stl.bnd fun l e1 => (evc w.C r l e1).bnd fun c e2 => Out.ok c e2) Q := by
    simp only [evT, ev] at h
    cases q : (ev w.C a e).stl with
    | ok l e1 =>
      rw [q] at h
      simp only [Out.bnd] at h ⊢
      cases q2 : evc w.C r l e1 with
      | ok c e2 => rw [q2] at h; simpa [Out.bnd, truR, rd, truD, T.er] using h
      | exc c fs e2 => rw [q2] at h; exact h
      | bad => rw [q2] at h; exact h
    | exc c fs e1 => rw [q] at h; exact h
    | bad => rw [q] at h; exact h
  refine wpAny_bind (thn (ha.run pins s σ H _ I (cmp_key (Q' := Q) R h' fun c e' F' H' R' h' => h' c F' H' ⟨rfl, R'⟩ (Same.refl _) Prs.refl)) fun v s1 ⟨x, H1, I1, r1, q1⟩ => ?_)
  exact hc.tst pos pins s1 σ H1 x v _ I1 r1 q1

/-! ### tests -/
theorem RP.tru {d : D} {v : V} {H : Hp} {c : Bool} (r : RP w.K H v d) (h : truD d = some c) : TruV w.K v H c := by
  cases r with
  | non => simp only [truD, Option.some.injEq] at h; exact h.symm
  | bl b => simp only [truD, Option.some.injEq] at h; exact h.symm
  | int i => simp only [truD, Option.some.injEq] at h; exact h.symm
  | str x =>
    simp only [truD] at h
    split at h
    · rename_i hz
      simp only [Option.some.injEq] at h
      exact ⟨by rw [← sizeL_eq]; exact hz, h.symm⟩
    · cases h
  | ty n => simp [truD] at h
  | @tup a xs ds h1 h2 =>
    simp only [truD, Option.some.injEq] at h
    refine .inr (.inl ⟨xs, h1.t, ?_⟩)
    rw [← h]
    cases h2 <;> rfl
  | @lst a xs ds h1 h2 =>
    simp only [truD, Option.some.injEq] at h
    refine .inl ⟨xs, SqL.of h1, ?_⟩
    rw [← h]
    cases h2 <;> rfl
  | @rol a xs ds h1 h2 =>
    simp only [truD, Option.some.injEq] at h
    refine .inl ⟨xs, h1, ?_⟩
    rw [← h]
    cases h2 <;> rfl
theorem RR.tru {G : Gh} {L P : List Addr} {σ : SSt} {F H : Hp} {e : Env} {r : R} {v : V} {c : Bool} (R : RR w.K G L P σ r e F H v) (h : truR r e = some c) : TruV w.K v H c := by
  unfold truR at h
  cases q : Fx.rd e r with
  | none => rw [q] at h; cases h
  | some d => rw [q] at h; exact (RR.rd R q).tru h
def plainT : Expr → Bool
  | .UnaryOp .Not _ _ => false
  | .BoolOp _ _ _ => false
  | .IfExp _ _ _ _ => false
  | .Compare _ _ _ _ => false
  | _ => true
theorem plainT_of {x : Expr} {env : PySem.Env} (h : plainT x = true) (whole : Sem Value) : isTrue x env whole = (do let v ← whole; standAt x.pos; holding [v] (truthy v)) := by
  cases x with
  | UnaryOp o a p => cases o <;> first | rfl | cases h
  | BoolOp _ _ _ => cases h
  | IfExp _ _ _ _ => cases h
  | Compare _ _ _ _ => cases h
  | _ => rfl
theorem pt_plain {x : E} {y : Expr} (g : Gd tb w k sc ws X) (h : PE X y (tE w x)) (hp : plainT y = true) : PT X y (tB w x) := by
  refine (pt_truth h fun whole => plainT_of hp whole).imp' fun σ H Q ⟨G, L, P, e, F, R, q⟩ => ?_
  unfold evT at q
  refine ⟨G, L, P, e, F, R, Po.bnd q fun r e1 v F1 H1 _ R1 s1 p1 h1 => ?_⟩
  have R1 : RR w.K G L P σ r e1 F1 H1 v := R1
  cases et : truR r e1 with
  | none => rw [et] at h1; exact h1.elim
  | some c =>
    rw [et] at h1
    rw [g.K]
    exact ⟨c, R1.tru et, h1 c F1 H1 ⟨rfl, R1.rel'⟩ (Same.refl _) Prs.refl⟩
/-- the test of a is that of its value -/
theorem evT_po {α β : Type} {G : Gh} {L P : List Addr} {σ : SSt} {F H : Hp} {e : Env} {a : E} {rep : α → Env → Hp → Hp → β → Prop} {f : Bool → Env → Out α} {Q : β → Hp → Prop} {Q' : Bool → Hp → Prop} (R : Rel w.K G L P e F σ H)
    (h : Po w G L P σ rep F H ((evT w.C a e).bnd f) Q) (k : ∀ c e' F' H', Rel w.K G L P e' F' σ H' → Same F F' → Prs P L H H' → Po w G L P σ rep F' H' (f c e') Q → Q' c H') : tB w a σ H Q' :=
  ⟨G, L, P, e, F, R, Po.bnd h fun c e1 b F1 H1 _ ⟨e2, R1⟩ s p h1 => by subst e2; exact k _ e1 F1 H1 R1 s p h1⟩
theorem evT_not {C : Cf} {a : E} {e : Env} : evT C (.not a) e = (evT C a e).bnd fun c e1 => .ok (!c) e1 := by
  simp only [evT, ev]
  cases q : ev C a e with
  | ok r e1 =>
    simp only [Out.bnd]
    cases q2 : truR r e1 with
    | none => rfl
    | some c => simp [truR, rd, T.er, truD]
  | exc c fs e1 => rfl
  | bad => rfl
theorem pt_notE {a : E} {l : Expr} {pos : Pos} (ha : PT X l (tB w a)) : PT X (.UnaryOp .Not l pos) (tB w (.not a)) := by
  refine (pt_not ha).imp' fun σ H Q ⟨G, L, P, e, F, R, h⟩ => ?_
  rw [evT_not] at h
  exact evT_po R h fun c e' F' H' R' s p h' => h' (!c) F' H' ⟨rfl, R'⟩ (Same.refl _) Prs.refl
theorem evT_and {C : Cf} {a b : E} {e : Env} : evT C (.and a b) e = (evT C a e).bnd fun c e1 => if c then evT C b e1 else .ok false e1 := by
  simp only [evT, ev]
  cases q : ev C a e with
  | ok r e1 =>
    simp only [Out.bnd]
    cases q2 : truR r e1 with
    | none => rfl
    | some c => cases c <;> simp [q2, Out.bnd]
  | exc c fs e1 => rfl
  | bad => rfl
theorem evT_or {C : Cf} {a b : E} {e : Env} : evT C (.or a b) e = (evT C a e).bnd fun c e1 => if c then .ok true e1 else evT C b e1 := by
  simp only [evT, ev]
  cases q : ev C a e with
  | ok r e1 =>
    simp only [Out.bnd]
    cases q2 : truR r e1 with
    | none => rfl
    | some c => cases c <;> simp [q2, Out.bnd]
  | exc c fs e1 => rfl
  | bad => rfl
theorem pw_andE {a b : E} {x y : Expr} {rest : List Expr} {pos : Pos} (ha : PT X x (tB w a)) (hb : PW X (.BoolOp .And (y :: rest) pos) (tB w b)) : PW X (.BoolOp .And (x :: y :: rest) pos) (tB w (.and a b)) := by
  refine (pw_and ha hb).imp' fun σ H Q ⟨G, L, P, e, F, R, h⟩ => ?_
  rw [evT_and] at h
  refine evT_po R h fun c e' F' H' R' s p h' => ?_
  cases c with
  | true => simp only [if_true] at h' ⊢; exact ⟨G, L, P, e', F', R', h'⟩
  | false => simp only [Bool.false_eq_true, if_false] at h' ⊢; exact h' false F' H' ⟨rfl, R'⟩ (Same.refl _) Prs.refl
theorem pw_orE {a b : E} {x y : Expr} {rest : List Expr} {pos : Pos} (ha : PT X x (tB w a)) (hb : PW X (.BoolOp .Or (y :: rest) pos) (tB w b)) : PW X (.BoolOp .Or (x :: y :: rest) pos) (tB w (.or a b)) := by
  refine (pw_or ha hb).imp' fun σ H Q ⟨G, L, P, e, F, R, h⟩ => ?_
  rw [evT_or] at h
  refine evT_po R h fun c e' F' H' R' s p h' => ?_
  cases c with
  | true => simp only [if_true] at h' ⊢; exact h' true F' H' ⟨rfl, R'⟩ (Same.refl _) Prs.refl
  | false => simp only [Bool.false_eq_true, if_false] at h' ⊢; exact ⟨G, L, P, e', F', R', h'⟩
theorem pe_andE {a b : E} {x y : Expr} {rest : List Expr} {pos : Pos} (g : Gd tb w k sc ws X) (ha : PE X x (tE w a)) (hb : PE X (.BoolOp .And (y :: rest) pos) (tE w b)) : PE X (.BoolOp .And (x :: y :: rest) pos) (tE w (.and a b)) := by
  refine (pe_andT ha hb).imp' fun σ H Q ⟨G, L, P, e, F, R, h⟩ => ?_
  simp only [ev] at h
  refine ⟨G, L, P, e, F, R, Po.bnd h fun r e1 v F1 H1 _ R1 s1 p1 h1 => ?_⟩
  have R1 : RR w.K G L P σ r e1 F1 H1 v := R1
  cases et : truR r e1 with
  | none => rw [et] at h1; exact h1.elim
  | some c =>
    rw [et] at h1
    rw [g.K]
    refine ⟨c, R1.tru et, ?_⟩
    cases c with
    | true => simp only [if_true]; exact ⟨G, L, P, e1, F1, R1.rel', h1⟩
    | false => simp only [Bool.false_eq_true, if_false]; exact h1 v F1 H1 R1 (Same.refl _) Prs.refl
theorem pe_orE {a b : E} {x y : Expr} {rest : List Expr} {pos : Pos} (g : Gd tb w k sc ws X) (ha : PE X x (tE w a)) (hb : PE X (.BoolOp .Or (y :: rest) pos) (tE w b)) : PE X (.BoolOp .Or (x :: y :: rest) pos) (tE w (.or a b)) := by
  refine (pe_orT ha hb).imp' fun σ H Q ⟨G, L, P, e, F, R, h⟩ => ?_
  simp only [ev] at h
  refine ⟨G, L, P, e, F, R, Po.bnd h fun r e1 v F1 H1 _ R1 s1 p1 h1 => ?_⟩
  have R1 : RR w.K G L P σ r e1 F1 H1 v := R1
  cases et : truR r e1 with
  | none => rw [et] at h1; exact h1.elim
  | some c =>
    rw [et] at h1
    rw [g.K]
    refine ⟨c, R1.tru et, ?_⟩
    cases c with
    | true => simp only [if_true]; exact h1 v F1 H1 R1 (Same.refl _) Prs.refl
    | false => simp only [Bool.false_eq_true, if_false]; exact ⟨G, L, P, e1, F1, R1.rel', h1⟩
theorem pe_notE {a : E} {x : Expr} {pos : Pos} (g : Gd tb w k sc ws X) (ha : PE X x (tE w a)) : PE X (.UnaryOp .Not x pos) (tE w (.not a)) := by
  refine (pe_notT ha).imp' fun σ H Q ⟨G, L, P, e, F, R, h⟩ => ?_
  simp only [ev] at h
  refine ⟨G, L, P, e, F, R, Po.bnd h fun r e1 v F1 H1 _ R1 s1 p1 h1 => ?_⟩
  have R1 : RR w.K G L P σ r e1 F1 H1 v := R1
  cases et : truR r e1 with
  | none => rw [et] at h1; exact h1.elim
  | some c =>
    rw [et] at h1
    rw [g.K]
    exact ⟨c, R1.tru et, Po.val h1 R1.rel' (.bl _)⟩
theorem pe_ifeE {c a b : E} {z x y : Expr} {pos : Pos} (hc : PT X z (tB w c)) (ha : PE X x (tE w a)) (hb : PE X y (tE w b)) : PE X (.IfExp z x y pos) (tE w (.ife c a b)) := by
  refine (pe_ifExp hc ha hb).imp' fun σ H Q ⟨G, L, P, e, F, R, h⟩ => ?_
  have h' : Po w G L P σ (rpR w G L P σ) F H ((evT w.C c e).bnd fun k e1 => if k then ev w.C a e1 else ev w.C b e1) Q := by
    simp only [ev] at h
    unfold evT
    cases q : ev w.C c e with
    | ok r e1 =>
      rw [q] at h
      simp only [Out.bnd] at h ⊢
      cases q2 : truR r e1 with
      | none => rw [q2] at h; exact h
      | some k => rw [q2] at h; cases k <;> simpa using h
    | exc c fs e1 => rw [q] at h; exact h
    | bad => rw [q] at h; exact h
  refine evT_po R h' fun k e' F' H' R' s p h2 => ?_
  cases k with
  | true => simp only [if_true] at h2 ⊢; exact ⟨G, L, P, e', F', R', h2⟩
  | false => simp only [Bool.false_eq_true, if_false] at h2 ⊢; exact ⟨G, L, P, e', F', R', h2⟩

/-! ### argument lists, displays -/
theorem pa_nilE : PA X [] (tEs w .nil) := pa_nil.imp' fun σ H Q ⟨G, L, P, e, F, R, h⟩ => h [] F H (RRs.nil R) (Same.refl _) Prs.refl
def isStar : Expr → Bool
  | .Starred _ _ => true
  | _ => false
theorem star_of {x : Expr} {xs : List Expr} {env : PySem.Env} (h : isStar x = false) : starEach (x :: xs) env = (false, eval x env) :: starEach xs env := by cases x <;> first | rfl | cases h
theorem pa_consE {x : E} {es : Es} {y : Expr} {ys : List Expr} (hx : PE X y (tE w x)) (hs : PA X ys (tEs w es)) (hn : isStar y = false) : PA X (y :: ys) (tEs w (.cons x es)) := by
  refine (pa_cons hx hs (star_of hn)).imp' fun σ H Q ⟨G, L, P, e, F, R, h⟩ => ?_
  simp only [evs] at h
  refine ⟨G, L, P, e, F, R, Po.bndS h fun r e1 v F1 H1 R1 st s1 p1 h1 => ?_⟩
  have go : ∀ (Q0 : List Addr), Rel w.K G L (Q0 ++ P) e1 F1 σ H1 → (∀ fp, (∀ t, r = .t t → RT w.K F1 H1 v t fp → Q0 = fp) ∧ ((∃ i, r = .p i []) → Q0 = [])) → tEs w es σ H1 fun vs H2 => Q (v :: vs) H2 := fun Q0 R2 hQ => by
    refine ⟨G, L, Q0 ++ P, e1, F1, R2, ?_⟩
    cases q : evs w.C es e1 with
    | ok rs e2 =>
      rw [q] at h1
      simp only [Out.bnd] at h1
      intro vs F2 H2 R3 s2 p2
      exact h1 (v :: vs) F2 H2 (RRs.cons R1 st hQ R3 s2 fun a ha => p2 a (.inl (by simp [ha]))) s2 (p2.less fun x m => by simp [m])
    | exc c fs e2 =>
      rw [q] at h1
      exact fun F2 H2 cls d R3 x s2 p2 => h1 F2 H2 cls d (Rel.drop R3) x s2 (p2.less fun x m => by simp [m])
    | bad => rw [q] at h1; exact h1.elim
  cases r with
  | t x =>
    obtain ⟨fp, a1, a2⟩ := id R1
    exact go fp a2 fun fp' => ⟨fun t e r => by cases e; exact a1.det r, fun z => by
      obtain ⟨i, e⟩ := z
      cases e⟩
  | p i ks =>
    cases ks with
    | nil => exact go [] R1.1 fun fp' => ⟨fun t e => (by cases e), fun _ => rfl⟩
    | cons _ _ => exact st.elim
theorem pe_tupE {es : Es} {ys : List Expr} {j : Nat} {pos : Pos} (hs : PA X ys (tEs w es)) : PE X (.Tuple ys j pos) (tE w (.tup es)) := by
  refine (pe_tup hs).imp' fun σ H Q ⟨G, L, P, e, F, R, h⟩ => ?_
  simp only [ev] at h
  refine ⟨G, L, P, e, F, R, Po.bnd h fun rs e1 vs F1 H1 _ R1 s1 p1 h1 => ?_⟩
  have R1 : RRs w.K G L P σ rs e1 F1 H1 vs := R1
  cases em : mvs rs e1 with
  | none => rw [em] at h1; exact h1.elim
  | some q =>
    obtain ⟨ts, e2⟩ := q
    rw [em] at h1
    simp only at h1
    split at h1
    · rename_i hz
      obtain ⟨F2, fp, s2, r2, R2⟩ := R1.mvs em
      refine ⟨by rw [r2.len, ← sizeL_eq]; exact hz, fun p hp => ?_⟩
      obtain ⟨R3, s3, k3⟩ := R2.tup (xs := vs) hp
      refine h1 (.ref p) _ _ ?_ (s2.trans s3) (R2.prs fun a ha => (k3 a ha).1)
      have fr : ∀ a ∈ fp, upd F2 p (.tup vs) a = none ∧ upd H1 p (.tup vs) a = H1 a := fun a ha => ⟨(R3.outP a (by simp [ha])).1, (k3 a (R2.outP a (by simp [ha])).2).1⟩
      have r4 := r2.frame s3 fr
      show RR w.K G L P σ (.t (mkTup ts)) e2 _ _ _
      unfold mkTup
      by_cases ha : ts.all T.isFz = true
      · rw [if_pos ha]
        obtain ⟨rfl, q⟩ := r4.fzs ha
        exact ⟨[], .fz (.tup (SqU.of upd_same) q), R3⟩
      · rw [if_neg ha]
        exact ⟨fp, .tup upd_same r4, R3⟩
    · exact h1.elim
theorem pe_lstE {es : Es} {ys : List Expr} {pos : Pos} (hs : PA X ys (tEs w es)) : PE X (.List ys pos) (tE w (.lst es)) := by
  refine (pe_lst hs).imp' fun σ H Q ⟨G, L, P, e, F, R, h⟩ => ?_
  simp only [ev] at h
  refine ⟨G, L, P, e, F, R, Po.bnd h fun rs e1 vs F1 H1 _ R1 s1 p1 h1 => ?_⟩
  have R1 : RRs w.K G L P σ rs e1 F1 H1 vs := R1
  cases em : mvs rs e1 with
  | none => rw [em] at h1; exact h1.elim
  | some q =>
    obtain ⟨ts, e2⟩ := q
    rw [em] at h1
    simp only at h1
    split at h1
    · rename_i hz
      obtain ⟨F2, fp, s2, r2, R2⟩ := R1.mvs em
      refine ⟨by rw [r2.len, ← sizeL_eq]; exact hz, fun p hp => ?_⟩
      obtain ⟨R3, fpn, k3, _⟩ := R2.lst (xs := vs) hp
      refine h1 (.ref p) F2 _ ⟨p :: fp, .own fpn upd_same (r2.frame (Same.refl _) fun a ha => ⟨(R2.outP a (by simp [ha])).1, k3 a (R2.outP a (by simp [ha])).2⟩), by simpa using R3⟩ s2 (R2.prs k3)
    · exact h1.elim
end
end Fx

set_option Elab.async false
set_option linter.all false
set_option maxRecDepth 100000
/-! Fx expressions: calls of the text's functions. -/
namespace Fx
open PySem PySem.Spec PyProof.Rows L2
section
variable {K : PySem.W.Frag} {G : Gh} {L P : List Addr} {σ : SSt} {F F' H H' : Hp} {e e' : Env}
theorem Rel.callG {fp q fp' fpr : List Addr} (R : Rel K G L P e F σ H) (g2 : (P ++ fp).Nodup) (g4 : ∀ a ∈ P, a ∉ L) (g3 : ∀ a ∈ P ++ fp, F a = none ∧ H a ≠ none ∧ (G.H0 a = none ∨ a ∈ G.M0)) (hq : ∀ a ∈ q, a ∈ fp ∧ a ∉ L) (c : CallPost K F H q F' H')
    (hre : RE K F' H' L σ e' fp') (hnd : (fpr ++ (P ++ fp')).Nodup) (hin : ∀ a ∈ fpr ++ fp', (a ∈ fp ∧ a ∉ q) ∨ (F' a = none ∧ H' a ≠ none ∧ (H a = none ∨ a ∈ q))) (hL : ∀ a ∈ fpr, a ∉ L) : Rel K G L (fpr ++ P) e' F' σ H' ∧ Prs P L H H' := by
  obtain ⟨c1, c2, c3, c4, c5, c6⟩ := c
  have nq : ∀ a ∈ P, a ∉ q := fun a ha hq' => (List.nodup_append.mp g2).2.2 a ha a (hq a hq').1 rfl
  have keep : ∀ a ∈ P ++ fp, a ∉ q → F' a = none ∧ H' a = H a := fun a ha hn => by
    obtain ⟨k1, k2, k3⟩ := g3 a ha
    refine ⟨?_, ?_⟩
    · cases e1 : F' a with
      | none => rfl
      | some o => rcases c6 a (by rw [e1]; simp) with z | z | z
                  · exact absurd k1 z
                  · exact absurd z k2
                  · exact absurd z hn
    · cases e1 : H a with
      | none => exact absurd e1 k2
      | some o => exact c4 a o e1 hn
  have hH0 : ∀ a, H a = none → G.H0 a = none := fun a ha => by
    cases e1 : G.H0 a with
    | none => rfl
    | some o => exact absurd ha (R.live a (by rw [e1]; simp))
  refine ⟨⟨c2, ⟨fp', hre, by rw [List.append_assoc]; exact hnd, fun a ha => ?_, fun a ha => ?_⟩, c3, R.sub.trans c1, fun a ha => ?_, fun a o e1 e2 => ?_, fun a ha => c5 a (R.live a ha), fun a ha => c5 a (R.lv a ha)⟩, fun x hx => ?_⟩
  · rcases List.mem_append.mp ha with z | z
    · exact hL a z
    · exact g4 a z
  · have : a ∈ P ∨ a ∈ fpr ++ fp' := by simp at ha ⊢; rcases ha with z | z | z <;> simp [z]
    rcases this with z | z
    · obtain ⟨k1, k2⟩ := keep a (by simp [z]) (nq a z)
      exact ⟨k1, by rw [k2]; exact (g3 a (by simp [z])).2.1, (g3 a (by simp [z])).2.2⟩
    · rcases hin a z with ⟨z1, z2⟩ | ⟨z1, z2, z3⟩
      · obtain ⟨k1, k2⟩ := keep a (by simp [z1]) z2
        exact ⟨k1, by rw [k2]; exact (g3 a (by simp [z1])).2.1, (g3 a (by simp [z1])).2.2⟩
      · refine ⟨z1, z2, ?_⟩
        rcases z3 with z3 | z3
        · exact .inl (hH0 a z3)
        · exact (g3 a (by simp [(hq a z3).1])).2.2
  · rcases c6 a ha with z | z | z
    · exact R.new a z
    · exact .inr (.inl (hH0 a z))
    · exact .inr (g3 a (by simp [(hq a z).1])).2.2
  · have h1 := R.frm a o e1 e2
    refine c4 a o h1 fun z => ?_
    rcases (g3 a (by simp [(hq a z).1])).2.2 with y | y
    · rw [y] at e1; cases e1
    · exact e2 y
  · rcases hx with z | z
    · exact (keep x (by simp [z]) (nq x z)).2
    · have hn : x ∉ q := fun y => (hq x y).2 z
      cases e1 : H x with
      | none => exact absurd e1 (R.lv x z)
      | some o => exact c4 x o e1 hn
/-- behind a call that changes nothing -/
theorem Rel.call0 {fpr : List Addr} {v : V} {r : T} (R : Rel K G L P e F σ H) (c : CallPost K F H [] F' H') (hr : RT K F' H' v r fpr) (nd : fpr.Nodup) (hf : ∀ a ∈ fpr, F' a = none ∧ (H a = none ∨ a ∈ ([] : List Addr))) : Rel K G L (fpr ++ P) e F' σ H' ∧ Prs P L H H' := by
  obtain ⟨fp, g1, g2, g4, g3⟩ := R.env
  obtain ⟨c1, c2, c3, c4, c5, c6⟩ := id c
  have hn : ∀ a ∈ fpr, H a = none := fun a ha => (hf a ha).2.elim id fun z => by simp at z
  refine R.callG (fp := fp) (q := []) (fp' := fp) g2 g4 g3 (by simp) c (g1.frame c1 fun a ha => ?_) ?_ (fun a ha => ?_) fun a ha z => R.lv a z (hn a ha)
  · obtain ⟨k1, k2, k3⟩ := g3 a (by simp [ha])
    refine ⟨?_, ?_⟩
    · cases e1 : F' a with
      | none => rfl
      | some o => rcases c6 a (by rw [e1]; simp) with z | z | z
                  · exact absurd k1 z
                  · exact absurd z k2
                  · simp at z
    · cases e1 : H a with
      | none => exact absurd e1 k2
      | some o => exact c4 a o e1 (by simp)
  · exact List.nodup_append.mpr ⟨nd, g2, fun a ha b hb z => (g3 b hb).2.1 (z ▸ hn a ha)⟩
  · rcases List.mem_append.mp ha with z | z
    · obtain ⟨_, xs, e1⟩ := hr.mem a z
      exact .inr ⟨(hf a z).1, by rw [e1]; simp, .inl (hn a z)⟩
    · exact .inl ⟨z, by simp⟩
/-- behind a call, all that was there being shown: what is new and a tuple is known -/
theorem Rel.callH (R : Rel K G L P e F σ H) (c : CallPost K H H [] F' H') : ∃ F2, Same F F2 ∧ Rel K G L P e F2 σ H' ∧ Prs P L H H' := by
  obtain ⟨fp, g1, g2, g4, g3⟩ := R.env
  obtain ⟨c1, c2, c3, c4, c5, c6⟩ := id c
  let F2 : Hp := fun a => if (H a).isSome then F a else F' a
  have f1 : ∀ a, H a ≠ none → F2 a = F a := fun a ha => if_pos (by cases e1 : H a with | none => exact absurd e1 ha | some o => rfl)
  have f2 : ∀ a, H a = none → F2 a = F' a := fun a ha => if_neg (by rw [ha]; simp)
  have keep : ∀ a, H a ≠ none → H' a = H a := fun a ha => by
    cases e1 : H a with
    | none => exact absurd e1 ha
    | some o => exact c4 a o e1 (by simp)
  have s : Same F F2 := fun a o e1 => by rw [f1 a (by rw [R.same _ _ e1]; simp)]; exact e1
  have hH0 : ∀ a, H a = none → G.H0 a = none := fun a ha => by
    cases e1 : G.H0 a with
    | none => rfl
    | some o => exact absurd ha (R.live a (by rw [e1]; simp))
  refine ⟨F2, s, ⟨fun a o e1 => ?_, ⟨fp, g1.frame s fun a ha => ?_, g2, g4, fun a ha => ?_⟩, fun a xs e1 => ?_, R.sub.trans s, fun a ha => ?_, fun a o e1 e2 => ?_, fun a ha => c5 a (R.live a ha), fun a ha => c5 a (R.lv a ha)⟩, R.prs0 keep⟩
  · by_cases z : H a = none
    · rw [f2 a z] at e1; exact c2 _ _ e1
    · rw [f1 a z] at e1; rw [keep a z]; exact R.same _ _ e1
  · have := g3 a (by simp [ha])
    exact ⟨by rw [f1 a this.2.1]; exact this.1, keep a this.2.1⟩
  · have := g3 a ha
    exact ⟨by rw [f1 a this.2.1]; exact this.1, by rw [keep a this.2.1]; exact this.2.1, this.2.2⟩
  · by_cases z : H a = none
    · rw [f2 a z]; exact c3 a xs e1
    · rw [f1 a z]; exact R.tups a xs (by rw [← keep a z]; exact e1)
  · by_cases z : H a = none
    · exact .inr (.inl (hH0 a z))
    · rw [f1 a z] at ha; exact R.new a ha
  · have h1 := R.frm a o e1 e2
    rw [keep a (by rw [h1]; simp)]; exact h1
end
section
variable {w : Wd} {G : Gh} {L P : List Addr} {σ : SSt} {F F' H H' : Hp} {e e' : Env}
theorem ers_set : ∀ (ts : List T) (n : Nat) (u : T), ers (ts.set n u) = (ers ts).set n u.er
  | [], _, _ => by simp [ers]
  | t :: ts, 0, u => by simp [ers]
  | t :: ts, n + 1, u => by simp [ers, ers_set ts n u]
theorem setP_er : ∀ {ks : List Nat} {t u t' x : T}, getP t ks = some u → x.er = u.er → setP t ks x = some t' → t'.er = t.er
  | [], t, u, t', x, h, hx, h2 => by
    simp [getP] at h; subst h
    simp [setP] at h2; subst h2
    exact hx
  | n :: ks, .own ts, u, t', x, h, hx, h2 => by
    simp only [getP] at h
    simp only [setP] at h2
    cases et : ts[n]? with
    | none => rw [et] at h; cases h
    | some t1 =>
      rw [et] at h h2
      simp only at h h2
      cases es : setP t1 ks x with
      | none => rw [es] at h2; cases h2
      | some t2 =>
        rw [es] at h2
        cases h2
        have := setP_er h hx es
        simp only [T.er, ers_set, D.lst.injEq]
        apply List.ext_getElem?
        intro j
        by_cases hj : j = n
        · subst hj
          have hlt : j < ts.length := (List.getElem?_eq_some_iff.mp et).1
          rw [List.getElem?_set_self (by rw [ers_len]; exact hlt), ers_get, et, Option.map_some, this]
        · rw [List.getElem?_set_ne (Ne.symm hj)]
  | _ :: _, .fz _, _, _, _, h, _, _ => by simp [getP] at h
  | _ :: _, .ownd _, _, _, _, h, _, _ => by simp [getP] at h
  | _ :: _, .tup _, _, _, _, h, _, _ => by simp [getP] at h
theorem rd_set {i : Nat} {t t' : T} (es : e[i]? = some (.is t)) (he : t'.er = t.er) {r : R} (hr : r.stl) : Fx.rd (e.set i (.is t')) r = Fx.rd e r := by
  cases r with
  | t x => rfl
  | p j ks =>
    cases ks with
    | cons _ _ => exact hr.elim
    | nil =>
      simp only [Fx.rd, slotT]
      by_cases hj : j = i
      · subst hj
        have hlt : j < e.length := (List.getElem?_eq_some_iff.mp es).1
        rw [List.getElem?_set_self hlt, es]
        simp [getP, he]
      · rw [List.getElem?_set_ne (Ne.symm hj)]
theorem mv_rd {r : R} {t : T} (h : Fx.mv r e = some (t, e')) : Fx.rd e r = some t.er ∧ ∀ r', r'.stl → Fx.rd e' r' = Fx.rd e r' := by
  cases r with
  | t x => simp [Fx.mv] at h; obtain ⟨rfl, rfl⟩ := h; exact ⟨rfl, fun _ _ => rfl⟩
  | p i ks =>
    simp only [Fx.mv] at h
    cases es : e[i]? with
    | none => rw [es] at h; cases h
    | some s =>
      rw [es] at h
      cases s with
      | un => cases h
      | lk t0 =>
        simp only at h
        cases eg : getP t0 ks with
        | none => rw [eg] at h; cases h
        | some u =>
          rw [eg] at h
          cases u with
          | fz d =>
            simp at h
            obtain ⟨rfl, rfl⟩ := h
            exact ⟨by simp [Fx.rd, slotT, es, eg, T.er], fun _ _ => rfl⟩
          | own _ => cases h
          | ownd _ => cases h
          | tup _ => cases h
      | is t0 =>
        simp only at h
        have gen : ∀ u, getP t0 ks = some u → (match setP t0 ks (.fz u.er) with | some t' => some (T.fz u.er, e.set i (.is t')) | none => none) = some (t, e') → Fx.rd e (.p i ks) = some t.er ∧ ∀ r', r'.stl → Fx.rd e' r' = Fx.rd e r' := fun u eg h => by
          cases es' : setP t0 ks (.fz u.er) with
          | none => rw [es'] at h; cases h
          | some t' =>
            rw [es'] at h
            simp at h
            obtain ⟨rfl, rfl⟩ := h
            exact ⟨by simp [Fx.rd, slotT, es, eg, T.er], fun r' hr => rd_set es (setP_er (x := .fz u.er) eg (by simp [T.er]) es') hr⟩
        cases eg : getP t0 ks with
        | none => rw [eg] at h; cases h
        | some u =>
          rw [eg] at h
          cases u with
          | fz d =>
            simp at h
            obtain ⟨rfl, rfl⟩ := h
            exact ⟨by simp [Fx.rd, slotT, es, eg, T.er], fun _ _ => rfl⟩
          | own x => exact gen _ eg h
          | ownd x => exact gen _ eg h
          | tup x => exact gen _ eg h
theorem mvFs_rds : ∀ {rs : List R} {ds ds' : List D} {e e' : Env}, (∀ r ∈ rs, r.stl) → Fx.rds e rs = some ds → Fx.mvFs rs e = some (ds', e') → ds' = ds
  | [], ds, ds', e, e', _, h, h2 => by
    simp [Fx.rds] at h
    simp [Fx.mvFs] at h2
    rw [h, h2.1]
  | r :: rs, ds, ds', e, e', hs, h, h2 => by
    simp only [Fx.rds] at h
    cases e1 : Fx.rd e r with
    | none => rw [e1] at h; simp at h
    | some d =>
      cases e2 : Fx.rds e rs with
      | none => rw [e1, e2] at h; simp at h
      | some ds1 =>
        rw [e1, e2] at h
        simp at h; subst h
        simp only [Fx.mvFs, Fx.mvF] at h2
        cases e3 : Fx.mv r e with
        | none => rw [e3] at h2; simp at h2
        | some p =>
          obtain ⟨t, e4⟩ := p
          rw [e3] at h2
          simp only at h2
          obtain ⟨k1, k2⟩ := mv_rd e3
          rw [e1] at k1
          cases k1
          cases e5 : Fx.mvFs rs e4 with
          | none => rw [e5] at h2; simp at h2
          | some q =>
            obtain ⟨ds2, e6⟩ := q
            rw [e5] at h2
            simp at h2
            obtain ⟨rfl, rfl⟩ := h2
            have all : ∀ rs : List R, (∀ r ∈ rs, r.stl) → Fx.rds e4 rs = Fx.rds e rs := fun rs => by
              induction rs with
              | nil => intro _; rfl
              | cons r rs ih => intro hs; simp only [Fx.rds, k2 r (hs r List.mem_cons_self), ih fun r m => hs r (List.mem_cons_of_mem _ m)]
            rw [mvFs_rds (fun r m => hs r (List.mem_cons_of_mem _ m)) ((all rs fun r m => hs r (List.mem_cons_of_mem _ m)).trans e2) e5]
theorem RRs.stls {K : PySem.W.Frag} {rs : List R} {vs : List V} (R : RRs K G L P σ rs e F H vs) : ∀ r ∈ rs, r.stl := by
  obtain ⟨_, a, _⟩ := R
  exact a.stl
theorem fz_all : ∀ ds : List D, (ds.map T.fz).all T.isFz = true
  | [] => rfl
  | d :: ds => by simp [T.isFz]
theorem drop_fz (n : Nat) (ds : List D) : ((ds.map T.fz).drop n).all T.isFz = true := by rw [← List.map_drop]; exact fz_all _
theorem callF_run {fn : Fn} {rs : List R} {vs : List V} {n : Nat} {Q : V → Hp → Prop} (R : RRs w.K G L P σ rs e F H vs) (hn : vs.length = n) (h : Po w G L P σ (rpR w G L P σ) F H (callF fn rs e) Q) : spOf w.K w.xt n fn vs H Q (WE w.W σ) := by
  obtain ⟨mu, f⟩ := fn
  match mu with
  | 0 =>
    simp only [callF] at h
    cases e1 : rds e rs with
    | none => rw [e1] at h; exact h.elim
    | some ds =>
      rw [e1] at h
      simp only at h
      cases e2 : f (ds.map .fz) with
      | none => rw [e2] at h; exact h.elim
      | some res =>
        rw [e2] at h
        cases res with
        | ret r m =>
          simp only at h
          by_cases hs : r.scal = true
          · rw [if_pos hs] at h
            have rp := R.rds e1
            obtain ⟨fps, _, R0⟩ := R
            have R1 := R0.drop
            refine ⟨H, ds.map .fz, [], hn, Same.refl H, fun _ _ h => h, RTs.ofFz rp, List.nodup_nil, drop_fz _ _, ?_⟩
            show (match f (ds.map .fz) with | none => False | some (.ret r m) => _ | some (.exc c fs m) => _)
            rw [e2]
            intro v F1 H1 fpr fpm c hr hm nd hf
            obtain ⟨F2, s2, R2, p2⟩ := R1.callH c
            obtain ⟨d, rfl, hd⟩ := scal_fz hs
            cases hr with
            | fz hr =>
              exact h v F2 H1 ⟨[], .fz (hd F2 v (hr.mn c.2.1)), R2⟩ s2 p2
          · rw [if_neg hs] at h
            cases e3 : mvFs rs e with
            | none => rw [e3] at h; exact h.elim
            | some p =>
              obtain ⟨ds', e4⟩ := p
              rw [e3] at h
              simp only at h
              obtain ⟨F1, s1, r1, R1⟩ := R.mvFs e3
              have eds : ds' = ds := mvFs_rds R.stls e1 e3
              subst eds
              refine ⟨F1, ds'.map .fz, [], hn, R1.same, R1.tups, RTs.ofFz r1, List.nodup_nil, drop_fz _ _, ?_⟩
              show (match f (ds'.map .fz) with | none => False | some (.ret r m) => _ | some (.exc c fs m) => _)
              rw [e2]
              intro v F2 H2 fpr fpm c hr hm nd hf
              obtain ⟨R2, p2⟩ := R1.call0 c hr (List.nodup_append.mp nd).1 fun a ha => hf a (by simp [ha])
              exact h v F2 H2 ⟨fpr, hr, R2⟩ (s1.trans c.1) p2
        | exc cl fs m =>
          simp only at h
          cases e3 : mvFs rs e with
          | none => rw [e3] at h; exact h.elim
          | some p =>
            obtain ⟨ds', e4⟩ := p
            rw [e3] at h
            simp only at h
            obtain ⟨F1, s1, r1, R1⟩ := R.mvFs e3
            have eds : ds' = ds := mvFs_rds R.stls e1 e3
            subst eds
            refine ⟨F1, ds'.map .fz, [], hn, R1.same, R1.tups, RTs.ofFz r1, List.nodup_nil, drop_fz _ _, ?_⟩
            show (match f (ds'.map .fz) with | none => False | some (.ret r m) => _ | some (.exc c fs m) => _)
            rw [e2]
            intro F2 H2 fpm cls d c x hm nd hf
            obtain ⟨R2, p2⟩ := R1.call0 (fpr := []) (v := .non) (r := .fz .non) c (.fz .non) List.nodup_nil (by simp)
            exact h F2 H2 cls d R2 x (s1.trans c.1) p2
  | 1 =>
    simp only [callF] at h
    match rs, R, h with
    | [], _, h => exact h.elim
    | .t _ :: _, _, h => exact h.elim
    | .p _ (_ :: _) :: _, _, h => exact h.elim
    | .p i [] :: rest, R, h =>
      simp only at h
      cases e3 : mvFs rest e with
      | none => rw [e3] at h; exact h.elim
      | some p =>
        obtain ⟨ds, e1⟩ := p
        rw [e3] at h
        simp only at h
        have hv : ∃ v ws, vs = v :: ws := by
          obtain ⟨_, a, _⟩ := R
          cases a; exact ⟨_, _, rfl⟩
        obtain ⟨v, ws, rfl⟩ := hv
        have R' : RRs w.K G L P σ rest e F H ws ∧ σ[i]? = some (some v) := by
          obtain ⟨fps, h1, h2⟩ := R
          cases h1 with
          | p a b => exact ⟨⟨fps, b, h2⟩, a⟩
        obtain ⟨R', hv⟩ := R'
        obtain ⟨F1, s1, r1, R1⟩ := R'.mvFs e3
        cases e2 : e1[i]? with
        | none => rw [e2] at h; exact h.elim
        | some s =>
          rw [e2] at h
          cases s with
          | un => exact h.elim
          | lk _ => exact h.elim
          | is t =>
            simp only at h
            obtain ⟨fp, g1, g2, g4, g3⟩ := R1.env
            obtain ⟨o, A, q, B, a1, rfl, ⟨v', a2, a3, a4⟩, a5⟩ := g1.at e2
            rw [hv] at a1
            cases a1; cases a2
            have hqd := (List.nodup_append.mp (List.nodup_append.mp g2).2.1)
            have hAq := List.nodup_append.mp hqd.1
            have hset : σ.set i (some v) = σ := by
              apply List.ext_getElem?
              intro j
              by_cases hj : j = i
              · subst hj
                have hlt : j < σ.length := (List.getElem?_eq_some_iff.mp hv).1
                rw [List.getElem?_set_self hlt, hv]
              · rw [List.getElem?_set_ne (Ne.symm hj)]
            have hout : ∀ a ∈ A ++ B, a ∉ q := fun a ha hq => by
              rcases List.mem_append.mp ha with z | z
              · exact hAq.2.2 a z a hq rfl
              · exact hqd.2.2 a (by simp [hq]) a z rfl
            have step : ∀ {F2 H2 : Hp} {fpr fpm : List Addr} {t' : T}, CallPost w.K F1 H q F2 H2 → RTs w.K F2 H2 [v] [t'] fpm → (fpr ++ fpm).Nodup → (∀ a ∈ fpr ++ fpm, F2 a = none ∧ (H a = none ∨ a ∈ q)) → (∀ a ∈ fpr, ∃ xs, H2 a = some (.lst xs)) →
                Rel w.K G L (fpr ++ P) (e1.set i (.is t')) F2 σ H2 ∧ Prs P L H H2 := fun {F2 H2 fpr fpm t'} c hm nd hf hmem => by
              obtain ⟨c1, c2, c3, c4, c5, c6⟩ := id c
              have hm' : RT w.K F2 H2 v t' fpm := by
                cases hm with
                | cons x y => cases y; simpa using x
              have keep : ∀ a ∈ A ++ B, F2 a = none ∧ H2 a = H a := fun a ha => by
                obtain ⟨k1, k2, k3⟩ := g3 a (by simp at ha ⊢; rcases ha with z | z <;> simp [z])
                refine ⟨?_, ?_⟩
                · cases e1 : F2 a with
                  | none => rfl
                  | some o => rcases c6 a (by rw [e1]; simp) with z | z | z
                              · exact absurd k1 z
                              · exact absurd z k2
                              · exact absurd z (hout a ha)
                · cases e1 : H a with
                  | none => exact absurd e1 k2
                  | some o => exact c4 a o e1 (hout a ha)
              have hL : ∀ a ∈ fpr ++ fpm, a ∉ L := fun a ha z => (hf a ha).2.elim (R1.lv a z) fun y => a4 a y z
              have re := a5 (F' := F2) (H' := H2) (L' := L) (s' := .is t') (o' := some v) (q' := fpm) (fun r hs => r.frame c1 fun a ha => keep a (hs a ha)) (fun _ _ => Iff.rfl) ⟨v, rfl, hm', fun a ha => hL a (by simp [ha])⟩
              rw [hset] at re
              have hAB : ∀ a ∈ fpr ++ fpm, ∀ b ∈ P ++ (A ++ B), a ≠ b := fun a ha b hb z => by
                subst z
                rcases (hf a ha).2 with y | y
                · exact (g3 a (by simp at hb ⊢; rcases hb with z | z | z <;> simp [z])).2.1 y
                · rcases List.mem_append.mp hb with z | z
                  · exact (List.nodup_append.mp g2).2.2 a z a (by simp [y]) rfl
                  · exact hout a z y
              have hPAB : (P ++ (A ++ B)).Nodup := nd_sub (List.Sublist.append (List.Sublist.refl P) (List.Sublist.append (List.sublist_append_left A q) (List.Sublist.refl B))) g2
              refine R1.callG (fp := A ++ q ++ B) (q := q) (fp' := A ++ fpm ++ B) g2 g4 g3 (fun a ha => ⟨by simp [ha], a4 a ha⟩) c re ?_ (fun a ha => ?_) fun a ha => hL a (by simp [ha])
              · have p1 : (fpr ++ (P ++ (A ++ fpm ++ B))).Perm ((fpr ++ fpm) ++ (P ++ (A ++ B))) := by
                  rw [List.append_assoc fpr]
                  refine List.Perm.append_left fpr ?_
                  have : (P ++ (A ++ fpm ++ B)) = (P ++ A) ++ (fpm ++ B) := by simp
                  rw [this]
                  refine (List.perm_append_comm_assoc _ _ _).trans ?_
                  simp
                exact nd_perm p1.symm (List.nodup_append.mpr ⟨nd, hPAB, hAB⟩)
              · have : a ∈ fpr ++ fpm ∨ a ∈ A ++ B := by simp at ha ⊢; rcases ha with z | z | z | z <;> simp [z]
                rcases this with z | z
                · refine .inr ⟨(hf a z).1, ?_, (hf a z).2⟩
                  rcases List.mem_append.mp z with y | y
                  · obtain ⟨xs, e1⟩ := hmem a y
                    rw [e1]; simp
                  · obtain ⟨_, xs, e1⟩ := hm'.mem a y
                    rw [e1]; simp
                · exact .inl ⟨by simp at z ⊢; rcases z with z | z <;> simp [z], hout a z⟩
            refine ⟨F1, t :: ds.map .fz, q, hn, R1.same, R1.tups, ?_, hAq.2.1, drop_fz 0 ds, ?_⟩
            · have := RTs.cons a3 (RTs.ofFz (H := H) r1)
              simpa using this
            · show (match f (t :: ds.map .fz) with | none => False | some (.ret r m) => _ | some (.exc c fs m) => _)
              cases e4 : f (t :: ds.map .fz) with
              | none => rw [e4] at h; exact h.elim
              | some res =>
                rw [e4] at h
                cases res with
                | ret r m =>
                  match m, h with
                  | [], h => exact h.elim
                  | _ :: _ :: _, h => exact h.elim
                  | [t'], h =>
                    simp only at h
                    intro u F2 H2 fpr fpm c hr hm nd hf
                    obtain ⟨R2, p2⟩ := step c hm nd hf fun a ha => (hr.mem a ha).2
                    exact h u F2 H2 ⟨fpr, hr, R2⟩ (s1.trans c.1) p2
                | exc cl fs m =>
                  match m, h with
                  | [], h => exact h.elim
                  | _ :: _ :: _, h => exact h.elim
                  | [t'], h =>
                    simp only at h
                    intro F2 H2 fpm cls d c x hm nd hf
                    obtain ⟨R2, p2⟩ := step (fpr := []) c hm (by simpa using nd) (by simpa using hf) (by simp)
                    exact h F2 H2 cls d R2 x (s1.trans c.1) p2
  | n + 2 => exact h.elim
end
end Fx

set_option Elab.async false
set_option linter.all false
set_option maxRecDepth 100000
/-! Fx: calls of the text's functions and of built-in ones, by data. -/
namespace Fx
open PySem PySem.Spec PyProof.Rows L2
section
variable {tb : Tb} {w : Wd} {k : Nat} {sc ws : Scope} {X : Cx}
/-! ### the text's functions -/
def Es.cnt : Es → Option Nat
  | .nil => some 0
  | .cons _ r => (match r.cnt with | some n => some (n + 1) | none => none)
  | .star _ _ => none
theorem evs_len {C : Cf} : ∀ {es : Es} {n : Nat} {e e' : Env} {rs : List R}, es.cnt = some n → evs C es e = .ok rs e' → rs.length = n
  | .nil, n, e, e', rs, h, h2 => by
    simp [Es.cnt] at h
    simp [evs] at h2
    rw [← h, h2.1]; rfl
  | .cons x r, n, e, e', rs, h, h2 => by
    simp only [Es.cnt] at h
    cases e1 : r.cnt with
    | none => rw [e1] at h; cases h
    | some m =>
      rw [e1] at h
      simp at h; subst h
      simp only [evs] at h2
      cases e2 : (ev C x e).stl with
      | ok a e3 =>
        rw [e2] at h2
        simp only [Out.bnd] at h2
        cases e4 : evs C r e3 with
        | ok as e5 =>
          rw [e4] at h2
          simp at h2
          rw [← h2.1]
          simp [evs_len e1 e4]
        | exc _ _ _ => rw [e4] at h2; cases h2
        | bad => rw [e4] at h2; cases h2
      | exc _ _ _ => rw [e2] at h2; cases h2
      | bad => rw [e2] at h2; cases h2
  | .star _ _, _, _, _, _, h, _ => by simp [Es.cnt] at h
theorem RRs.len {K : PySem.W.Frag} {G : Gh} {L P : List Addr} {σ : SSt} {e : Env} {F H : Hp} {rs : List R} {vs : List V} (R : RRs K G L P σ rs e F H vs) : vs.length = rs.length := by
  obtain ⟨fps, a, _⟩ := R
  have : ∀ {rs : List R} {vs : List V} {fps : List Addr}, Pd K F H σ rs vs fps → vs.length = rs.length := fun {rs} => by
    induction rs with
    | nil => intro vs fps h; cases h; rfl
    | cons r rs ih => intro vs fps h; cases h <;> simp [ih ‹_›]
  exact this a
def noStars : List Expr → Bool
  | [] => true
  | x :: xs => !isStar x && noStars xs
theorem noStars_each {env : PySem.Env} {pos : Pos} : ∀ {xs : List Expr}, noStars xs = true → (backTo pos (starEach xs env)).any (·.1) = false
  | [], _ => rfl
  | x :: xs, h => by
    simp only [noStars, Bool.and_eq_true, Bool.not_eq_true'] at h
    rw [star_of h.1]
    exact noStars_each (xs := xs) h.2
theorem tCall_run {i : Nat} {fn : Fn} {es : Es} {n : Nat} {σ : SSt} {H : Hp} {Q : V → Hp → Prop} (hf : w.C.ft i = some fn) (hn : es.cnt = some n) (h : tE w (.call i es []) σ H Q) : tCallS (spOf w.K w.xt n fn) (WE w.W) (tEs w es) σ H Q := by
  obtain ⟨G, L, P, e, F, R, h⟩ := h
  simp only [ev] at h
  refine ⟨G, L, P, e, F, R, ?_⟩
  cases eq : evs w.C es e with
  | ok rs e' =>
    rw [eq] at h
    simp only [Out.bnd, hf, List.isEmpty_nil, if_true] at h
    intro vs F' H' R' s p
    have R' : RRs w.K G L P σ rs e' F' H' vs := R'
    exact callF_run R' (by rw [R'.len]; exact evs_len hn eq) (Po.base h s p)
  | exc c fs e' => rw [eq] at h; exact h
  | bad => rw [eq] at h; exact h.elim
def callOk (tb : Tb) (C : Cf) (sc : Scope) (i : Nat) (es : Es) (x : Str) (ys : List Expr) : Bool :=
  (match tb.fnm i with | some (y, ps) => decide (x = y) && decide (es.cnt = some ps.length) | none => false) && (C.ft i).isSome && gloB sc x && !dunder x && noStars ys
theorem pe_callE {i : Nat} {es : Es} {x : Str} {y : Expr} {ys : List Expr} {p pos : Pos} (g : Gd tb w k sc ws X) (hc : callOk tb w.C sc i es x (y :: ys) = true) (hs : PA X (y :: ys) (tEs w es)) : PE X (.Call (.Name x p) (y :: ys) [] pos) (tE w (.call i es [])) := by
  unfold callOk at hc
  simp only [Bool.and_eq_true, Bool.not_eq_true'] at hc
  obtain ⟨⟨⟨⟨h1, h2⟩, h3⟩, h4⟩, h5⟩ := hc
  obtain ⟨fn, hf⟩ := Option.isSome_iff_exists.mp h2
  obtain ⟨x', ps, e1, ⟨f, fd, q1, q2, q3, q4, q5⟩⟩ := g.fns i fn hf
  rw [e1] at h1
  simp only [Bool.and_eq_true, decide_eq_true_eq] at h1
  obtain ⟨rfl, hn⟩ := h1
  unfold dunder at h4
  rw [Bool.or_eq_false_iff] at h4
  simp only [noStars, Bool.and_eq_true, Bool.not_eq_true'] at h5
  refine (pe_callS (E := WE w.W) q5 g.room (glo_of g h3) q1 q2 q3 (fun σ => passAt g.takes σ) hs h4.1 (star_of h5.1) (noStars_each h5.2)).imp' fun σ H Q h => ?_
  rw [g.K]
  exact tCall_run hf hn h
theorem pe_callE0 {i : Nat} {x : Str} {p pos : Pos} (g : Gd tb w k sc ws X) (hc : callOk tb w.C sc i .nil x [] = true) : PE X (.Call (.Name x p) [] [] pos) (tE w (.call i .nil [])) := by
  unfold callOk at hc
  simp only [Bool.and_eq_true, Bool.not_eq_true'] at hc
  obtain ⟨⟨⟨⟨h1, h2⟩, h3⟩, h4⟩, h5⟩ := hc
  obtain ⟨fn, hf⟩ := Option.isSome_iff_exists.mp h2
  obtain ⟨x', ps, e1, ⟨f, fd, q1, q2, q3, q4, q5⟩⟩ := g.fns i fn hf
  rw [e1] at h1
  simp only [Bool.and_eq_true, decide_eq_true_eq] at h1
  obtain ⟨rfl, hn⟩ := h1
  unfold dunder at h4
  rw [Bool.or_eq_false_iff] at h4
  refine ⟨fun pins s σ H Q I h => ?_⟩
  have h' := tCall_run hf hn h
  obtain ⟨G, L, P, e, F, R, h'⟩ := h'
  have h2 := h' [] F H (RRs.nil R) (Same.refl _) Prs.refl
  refine wpAny_Call_Name_kw (ld_glob I (glo_of g h3) q1 ?_ h4.1)
  rw [← g.K] at h2
  exact PySem.W.callWith_K0 I.kIn q2 (run_fnS (us := []) q5 g.room q3 (passAt g.takes σ) I .nil h2)
end
/-! ### built-in functions -/
def rBi (K : PySem.W.Frag) (b : Bi) : List V → Hp → VK → Prop := fun vs H Q => ∃ F ds t, RKs K F H vs ds ∧ Same F H ∧ (∀ a xs, H a = some (.tup xs) → F a = some (.tup xs)) ∧ biD b ds = some t ∧ ∀ v H', NR K F H t v H' → Q v H'
section
variable {w : Wd} {G : Gh} {L P : List Addr} {σ : SSt} {F F' H H' : Hp} {e e' : Env}
theorem RPs.rks {K : PySem.W.Frag} : ∀ {vs : List V} {ds : List D}, RPs K H vs ds → RKs K H H vs ds
  | _, _, .nil => .nil
  | _, _, .cons h hs => .cons (h.rk (Same.refl _)) (RPs.rks hs)
theorem biR_run {b : Bi} {rs : List R} {vs : List V} {Q : V → Hp → Prop} (R : RRs w.K G L P σ rs e F H vs) (h : Po w G L P σ (rpR w G L P σ) F H (biR b rs e) Q) : rBi w.K b vs H Q := by
  unfold biR at h
  cases e3 : rds e rs with
  | none => rw [e3] at h; exact h.elim
  | some ds =>
    rw [e3] at h
    simp only at h
    have rp := R.rds e3
    cases et : biD b ds with
    | none => rw [et] at h; exact h.elim
    | some t =>
      rw [et] at h
      simp only at h
      obtain ⟨fps, _, R0⟩ := id R
      have R1 := R0.drop
      split at h
      · rename_i hs
        refine ⟨H, ds, t, rp.rks, Same.refl H, fun _ _ z => z, et, fun v H' n => ?_⟩
        obtain ⟨rfl, d, rfl, n2⟩ := n.scal hs
        exact Po.val h R1 (n2 F)
      · cases ek : kidsRs rs e with
        | none => rw [ek] at h; exact h.elim
        | some e' =>
          rw [ek] at h
          obtain ⟨F1, s1, k1, R2⟩ := R.kids e3 ek
          exact ⟨F1, ds, t, k1, R2.same, R2.tups, et, fun v H' n => Po.nr (Po.base h s1 Prs.refl) R2 n⟩
theorem tBi_run {b : Bi} {es : Es} {Q : V → Hp → Prop} (h : tE w (.bi b es) σ H Q) : tCB (rBi w.K b) (tEs w es) σ H Q := by
  obtain ⟨G, L, P, e, F, R, h⟩ := h
  simp only [ev] at h
  refine ⟨G, L, P, e, F, R, Po.bnd h fun rs e1 vs F1 H1 _ R1 s1 p1 h1 => biR_run R1 h1⟩
end
section
variable {X : Cx} {F H : Hp}
theorem intsOf_vs {K : PySem.W.Frag} : ∀ {ds : List D} {is : List Int} {vs : List V}, intsOf ds = some is → RPs K F vs ds → vs = is.map V.int
  | [], is, vs, h, r => by simp [intsOf] at h; subst h; cases r; rfl
  | .int i :: ds, is, vs, h, r => by
    simp only [intsOf] at h
    cases e1 : intsOf ds with
    | none => rw [e1] at h; cases h
    | some js =>
      rw [e1] at h
      simp at h; subst h
      cases r with
      | cons r1 r2 => cases r1; rw [intsOf_vs e1 r2]; rfl
  | .non :: _, _, _, h, _ => by simp [intsOf] at h
  | .bl _ :: _, _, _, h, _ => by simp [intsOf] at h
  | .str _ :: _, _, _, h, _ => by simp [intsOf] at h
  | .tup _ :: _, _, _, h, _ => by simp [intsOf] at h
  | .lst _ :: _, _, _, h, _ => by simp [intsOf] at h
  | .rol _ :: _, _, _, h, _ => by simp [intsOf] at h
  | .dic _ :: _, _, _, h, _ => by simp [intsOf] at h
  | .set _ :: _, _, _, h, _ => by simp [intsOf] at h
  | .ty _ :: _, _, _, h, _ => by simp [intsOf] at h
theorem intsOf_ds : ∀ {ds : List D} {is : List Int}, intsOf ds = some is → ds = is.map D.int
  | [], is, h => by simp [intsOf] at h; subst h; rfl
  | .int i :: ds, is, h => by
    simp only [intsOf] at h
    cases e1 : intsOf ds with
    | none => rw [e1] at h; cases h
    | some js => rw [e1] at h; simp at h; subst h; rw [intsOf_ds e1]; rfl
  | .non :: _, _, h => by simp [intsOf] at h
  | .bl _ :: _, _, h => by simp [intsOf] at h
  | .str _ :: _, _, h => by simp [intsOf] at h
  | .tup _ :: _, _, h => by simp [intsOf] at h
  | .lst _ :: _, _, h => by simp [intsOf] at h
  | .rol _ :: _, _, h => by simp [intsOf] at h
  | .dic _ :: _, _, h => by simp [intsOf] at h
  | .set _ :: _, _, h => by simp [intsOf] at h
  | .ty _ :: _, _, h => by simp [intsOf] at h
theorem bls_vs {K : PySem.W.Frag} : ∀ {ds : List D} {is : List Bool} {vs : List V}, bls ds = some is → RPs K F vs ds → vs = is.map V.bl
  | [], is, vs, h, r => by simp [bls] at h; subst h; cases r; rfl
  | .bl i :: ds, is, vs, h, r => by
    simp only [bls] at h
    cases e1 : bls ds with
    | none => rw [e1] at h; cases h
    | some js =>
      rw [e1] at h
      simp at h; subst h
      cases r with
      | cons r1 r2 => cases r1; rw [bls_vs e1 r2]; rfl
  | .non :: _, _, _, h, _ => by simp [bls] at h
  | .int _ :: _, _, _, h, _ => by simp [bls] at h
  | .str _ :: _, _, _, h, _ => by simp [bls] at h
  | .tup _ :: _, _, _, h, _ => by simp [bls] at h
  | .lst _ :: _, _, _, h, _ => by simp [bls] at h
  | .rol _ :: _, _, _, h, _ => by simp [bls] at h
  | .dic _ :: _, _, _, h, _ => by simp [bls] at h
  | .set _ :: _, _, _, h, _ => by simp [bls] at h
  | .ty _ :: _, _, _, h, _ => by simp [bls] at h
theorem min_fold : ∀ (is : List Int) (i : Int), (is.foldl min i) ∈ i :: is ∧ ∀ y ∈ i :: is, is.foldl min i ≤ y
  | [], i => ⟨by simp, fun y hy => by simp at hy; subst hy; exact Int.le_refl _⟩
  | j :: is, i => by
    obtain ⟨h1, h2⟩ := min_fold is (min i j)
    simp only [List.foldl_cons]
    refine ⟨?_, fun y hy => ?_⟩
    · rcases List.mem_cons.mp h1 with z | z
      · rw [z]
        by_cases hij : i ≤ j
        · rw [Int.min_eq_left hij]; simp
        · rw [Int.min_eq_right (by omega)]; simp
      · simp [z]
    · have hm := h2 (min i j) (by simp)
      simp only [List.mem_cons] at hy
      rcases hy with z | z | z
      · subst z; exact Int.le_trans hm (Int.min_le_left _ _)
      · subst z; exact Int.le_trans hm (Int.min_le_right _ _)
      · exact h2 y (by simp [z])
theorem max_fold : ∀ (is : List Int) (i : Int), (is.foldl max i) ∈ i :: is ∧ ∀ y ∈ i :: is, y ≤ is.foldl max i
  | [], i => ⟨by simp, fun y hy => by simp at hy; subst hy; exact Int.le_refl _⟩
  | j :: is, i => by
    obtain ⟨h1, h2⟩ := max_fold is (max i j)
    simp only [List.foldl_cons]
    refine ⟨?_, fun y hy => ?_⟩
    · rcases List.mem_cons.mp h1 with z | z
      · rw [z]
        by_cases hij : i ≤ j
        · rw [Int.max_eq_right hij]; simp
        · rw [Int.max_eq_left (by omega)]; simp
      · simp [z]
    · have hm := h2 (max i j) (by simp)
      simp only [List.mem_cons] at hy
      rcases hy with z | z | z
      · subst z; exact Int.le_trans (Int.le_max_left _ _) hm
      · subst z; exact Int.le_trans (Int.le_max_right _ _) hm
      · exact h2 y (by simp [z])
/-- by cases of the data of one, of two -/
theorem RKs.one {K : PySem.W.Frag} {vs : List V} {d : D} (h : RKs K F H vs [d]) : ∃ v, vs = [v] ∧ RK K F H v d := by
  cases h with
  | cons h hs => cases hs; exact ⟨_, rfl, h⟩
theorem RKs.two {K : PySem.W.Frag} {vs : List V} {d d' : D} (h : RKs K F H vs [d, d']) : ∃ v u, vs = [v, u] ∧ RK K F H v d ∧ RK K F H u d' := by
  cases h with
  | cons h hs => obtain ⟨u, rfl, k⟩ := hs.one; exact ⟨_, u, rfl, h, k⟩
theorem RP.rol' {K : PySem.W.Frag} {v : V} {ds : List D} (s : Same F H) (h : RK K F H v (.rol ds)) : ∃ a xs, v = .ref a ∧ SqL K H a xs ∧ RPs K F xs ds := by
  cases (show RP K F v (.rol ds) from h) with
  | rol k1 k2 => exact ⟨_, _, rfl, s.seq k1, k2⟩
theorem bi_len : CallR X (.builtin "len") (rBi X.K .len) := by
  intro pins s σ H xs us Q I r h
  obtain ⟨F, ds, t, hk, hs, ht, hb, q⟩ := h
  have fin : ∀ {n : Int}, t = .fz (.int n) → Q (.int n) H := fun e => q _ _ (by rw [e]; exact .val (.int _))
  match ds, hk, hb with
  | [.str x], hk, hb =>
    obtain ⟨v, rfl, k⟩ := hk.one
    cases (show RP X.K F v (.str x) from k)
    simp only [biD] at hb
    split at hb
    · rename_i hz
      exact call_len_str pins s σ H _ us Q I r ⟨x, rfl, by rw [← sizeL_eq]; exact hz, fin (Option.some.inj hb).symm⟩
    · cases hb
  | [.lst ds], hk, hb =>
    obtain ⟨v, rfl, a, xs, rfl, k1, k2⟩ := hk.one
    exact call_len_seq pins s σ H _ us Q I r ⟨a, xs, rfl, .inl (SqL.of k1), fin (by rw [k2.len]; exact (Option.some.inj hb).symm)⟩
  | [.rol ds], hk, hb =>
    obtain ⟨v, rfl, k⟩ := hk.one
    obtain ⟨a, xs, rfl, k1, k2⟩ := RP.rol' hs k
    exact call_len_seq pins s σ H _ us Q I r ⟨a, xs, rfl, .inl k1, fin (by rw [k2.len]; exact (Option.some.inj hb).symm)⟩
  | [.tup ds], hk, hb =>
    obtain ⟨v, rfl, a, xs, rfl, k1, k2⟩ := hk.one
    exact call_len_seq pins s σ H _ us Q I r ⟨a, xs, rfl, .inr k1.t, fin (by rw [k2.len]; exact (Option.some.inj hb).symm)⟩
theorem bi_abs : CallR X (.builtin "abs") (rBi X.K .abs) := by
  intro pins s σ H xs us Q I r h
  obtain ⟨F, ds, t, hk, hs, ht, hb, q⟩ := h
  match ds, hk, hb with
  | [.int i], hk, hb =>
    obtain ⟨v, rfl, k⟩ := hk.one
    cases (show RP X.K F v (.int i) from k)
    exact call_abs pins s σ H _ us Q I r ⟨i, rfl, q _ _ (by rw [← Option.some.inj hb]; exact .val (.int _))⟩
theorem bi_int : CallR X (.type "int") (rBi X.K .int) := by
  intro pins s σ H xs us Q I r h
  obtain ⟨F, ds, t, hk, hs, ht, hb, q⟩ := h
  match ds, hk, hb with
  | [.int i], hk, hb =>
    obtain ⟨v, rfl, k⟩ := hk.one
    cases (show RP X.K F v (.int i) from k)
    exact call_int1 pins s σ H _ us Q I r (.inl ⟨i, rfl, q _ _ (by rw [← Option.some.inj hb]; exact .val (.int _))⟩)
  | [.bl i], hk, hb =>
    obtain ⟨v, rfl, k⟩ := hk.one
    cases (show RP X.K F v (.bl i) from k)
    exact call_int1 pins s σ H _ us Q I r (.inr ⟨i, rfl, q _ _ (by rw [← Option.some.inj hb]; exact .val (.int _))⟩)
theorem bi_sum (hc : X.calm = true) : CallR X (.builtin "sum") (rBi X.K .sum) := by
  intro pins s σ H xs us Q I r h
  obtain ⟨F, ds, t, hk, hs, ht, hb, q⟩ := h
  match ds, hk, hb with
  | [.lst ds], hk, hb =>
    obtain ⟨v, rfl, a, xs, rfl, k1, k2⟩ := hk.one
    simp only [biD] at hb
    cases e1 : intsOf ds with
    | none => rw [e1] at hb; cases hb
    | some is =>
      rw [e1] at hb
      have := intsOf_vs e1 k2
      subst this
      exact cr_sum hc pins s σ H _ us Q I r ⟨a, is, rfl, SqL.of k1, q _ _ (by rw [← Option.some.inj hb]; exact .val (.int _))⟩
theorem bi_any (hc : X.calm = true) : CallR X (.builtin "any") (rBi X.K .any) := by
  intro pins s σ H xs us Q I r h
  obtain ⟨F, ds, t, hk, hs, ht, hb, q⟩ := h
  match ds, hk, hb with
  | [.lst ds], hk, hb =>
    obtain ⟨v, rfl, a, xs, rfl, k1, k2⟩ := hk.one
    simp only [biD] at hb
    cases e1 : bls ds with
    | none => rw [e1] at hb; cases hb
    | some is =>
      rw [e1] at hb
      have := bls_vs e1 k2
      subst this
      exact cr_any hc pins s σ H _ us Q I r ⟨a, is, rfl, SqL.of k1, q _ _ (by rw [← Option.some.inj hb]; exact .val (.bl _))⟩
theorem bi_all (hc : X.calm = true) : CallR X (.builtin "all") (rBi X.K .all) := by
  intro pins s σ H xs us Q I r h
  obtain ⟨F, ds, t, hk, hs, ht, hb, q⟩ := h
  match ds, hk, hb with
  | [.lst ds], hk, hb =>
    obtain ⟨v, rfl, a, xs, rfl, k1, k2⟩ := hk.one
    simp only [biD] at hb
    cases e1 : bls ds with
    | none => rw [e1] at hb; cases hb
    | some is =>
      rw [e1] at hb
      have := bls_vs e1 k2
      subst this
      exact cr_all hc pins s σ H _ us Q I r ⟨a, is, rfl, SqL.of k1, q _ _ (by rw [← Option.some.inj hb]; exact .val (.bl _))⟩
theorem bi_tuple : CallR X (.type "tuple") (rBi X.K .tuple) := by
  intro pins s σ H xs us Q I r h
  obtain ⟨F, ds, t, hk, hs, ht, hb, q⟩ := h
  match ds, hk, hb with
  | [d], hk, hb =>
  cases d with
  | lst ds =>
    obtain ⟨v, rfl, a, xs, rfl, k1, k2⟩ := hk.one
    exact call_tuple_of pins s σ H _ us Q I r ⟨a, xs, rfl, .inl ⟨SqL.of k1, fun l hl => q _ _ (by rw [← Option.some.inj hb]; exact .tup hl k2)⟩⟩
  | tup ds =>
    obtain ⟨v, rfl, a, xs, rfl, k1, k2⟩ := hk.one
    exact call_tuple_of pins s σ H _ us Q I r ⟨a, xs, rfl, .inr ⟨k1.t, q _ _ (by rw [← Option.some.inj hb]; exact .val (.tup (k1.dn ht) k2))⟩⟩
  | _ => simp [biD, itemsD] at hb
theorem bi_list : CallR X (.type "list") (rBi X.K .list) := by
  intro pins s σ H xs us Q I r h
  obtain ⟨F, ds, t, hk, hs, ht, hb, q⟩ := h
  match ds, hk, hb with
  | [d], hk, hb =>
  cases d with
  | lst ds =>
    obtain ⟨v, rfl, a, xs, rfl, k1, k2⟩ := hk.one
    exact call_list_of pins s σ H _ us Q I r ⟨a, xs, rfl, .inl (SqL.of k1), fun l hl => q _ _ (by rw [← Option.some.inj hb]; exact .lst hl k2)⟩
  | tup ds =>
    obtain ⟨v, rfl, a, xs, rfl, k1, k2⟩ := hk.one
    exact call_list_of pins s σ H _ us Q I r ⟨a, xs, rfl, .inr k1.t, fun l hl => q _ _ (by rw [← Option.some.inj hb]; exact .lst hl k2)⟩
  | _ => simp [biD, itemsD] at hb
/-! isinstance -/
theorem tyOf {K : PySem.W.Frag} {v : V} {d : D} {n : String} {b : Bool} (s : Same F H) (h : RK K F H v d) (hb : isTy d n = some b) : TyX K H v (.type (tyName d)) := by
  cases d with
  | non => cases (show RP K F v .non from h); exact .base .non
  | bl x => cases (show RP K F v (.bl x) from h); exact .base (.bl _)
  | int x => cases (show RP K F v (.int x) from h); exact .base (.int _)
  | str x => cases (show RP K F v (.str x) from h); exact .base (.str _)
  | tup ds =>
    obtain ⟨a, xs, rfl, k1, k2⟩ := h
    rcases k1 with k1 | ⟨o, its, n, k1, k3, _⟩
    · exact .base (.tup k1)
    · exact .kTuple k1 k3
  | lst ds => obtain ⟨a, xs, rfl, k1, k2⟩ := h; exact .base (.lst k1)
  | rol ds => unfold isTy at hb; split at hb <;> cases hb
  | dic kvs => unfold isTy at hb; split at hb <;> cases hb
  | set ds => unfold isTy at hb; split at hb <;> cases hb
  | ty n => unfold isTy at hb; split at hb <;> cases hb
theorem kitB_all : ∀ t ∈ ["NoneType", "bool", "int", "str", "tuple", "list"], ∀ n ∈ ["bool", "int", "str", "tuple", "list", "dict"], kitB t n = some (t == n || (t == "bool" && n == "int")) := by decide +kernel
theorem kit_isTy {K : PySem.W.Frag} {d : D} {n : String} {b : Bool} (h : isTy d n = some b) : PySem.W.kitOne K (.type (tyName d)) (.type n) = some b := by
  unfold isTy at h
  split at h
  · rename_i hn
    rw [List.contains_iff_mem] at hn
    refine kit_ty ?_
    have ht : tyName d ∈ ["NoneType", "bool", "int", "str", "tuple", "list"] ∧ some (tyName d == n || (tyName d == "bool" && n == "int")) = some b := by
      cases d <;> first | (cases h; done) | exact ⟨by simp [tyName], h⟩
    rw [← ht.2]
    exact kitB_all _ ht.1 n hn
  · cases h
theorem kit_isTys {K : PySem.W.Frag} {d : D} : ∀ {ts : List D} {cs : List V} {b : Bool}, isTys d ts = some b → RPs K F cs ts → ∃ us, Paired ClsV cs us ∧ PySem.W.kitAny K (.type (tyName d)) us = some b
  | [], cs, b, h, r => by cases r; simp [isTys] at h; subst h; exact ⟨[], .nil, kitAny_nil⟩
  | .ty n :: ts, cs, b, h, r => by
    cases r with
    | cons r1 r2 =>
      cases r1
      simp only [isTys] at h
      cases e1 : isTy d n with
      | none => rw [e1] at h; simp at h
      | some b1 =>
        cases e2 : isTys d ts with
        | none => rw [e1, e2] at h; simp at h
        | some b2 =>
          rw [e1, e2] at h
          simp at h; subst h
          obtain ⟨us, k1, k2⟩ := kit_isTys (K := K) e2 r2
          exact ⟨_ :: us, .cons (.ty n) k1, kitAny_cons (kit_isTy e1) (fun z => by rw [z]; exact k2) fun z => by rw [z]; rfl⟩
  | .non :: _, _, _, h, _ => by simp [isTys] at h
  | .bl _ :: _, _, _, h, _ => by simp [isTys] at h
  | .int _ :: _, _, _, h, _ => by simp [isTys] at h
  | .str _ :: _, _, _, h, _ => by simp [isTys] at h
  | .tup _ :: _, _, _, h, _ => by simp [isTys] at h
  | .lst _ :: _, _, _, h, _ => by simp [isTys] at h
  | .rol _ :: _, _, _, h, _ => by simp [isTys] at h
  | .dic _ :: _, _, _, h, _ => by simp [isTys] at h
  | .set _ :: _, _, _, h, _ => by simp [isTys] at h
theorem isTys_ty {d : D} : ∀ {ts : List D} {b : Bool}, ts ≠ [] → isTys d ts = some b → ∃ n b', isTy d n = some b'
  | [], _, h, _ => absurd rfl h
  | .ty n :: ts, b, _, h => by
    simp only [isTys] at h
    cases e1 : isTy d n with
    | none => rw [e1] at h; simp at h
    | some b1 => exact ⟨n, b1, e1⟩
  | .non :: _, _, _, h => by simp [isTys] at h
  | .bl _ :: _, _, _, h => by simp [isTys] at h
  | .int _ :: _, _, _, h => by simp [isTys] at h
  | .str _ :: _, _, _, h => by simp [isTys] at h
  | .tup _ :: _, _, _, h => by simp [isTys] at h
  | .lst _ :: _, _, _, h => by simp [isTys] at h
  | .rol _ :: _, _, _, h => by simp [isTys] at h
  | .dic _ :: _, _, _, h => by simp [isTys] at h
  | .set _ :: _, _, _, h => by simp [isTys] at h
theorem bi_isi : CallR X (.builtin "isinstance") (rBi X.K .isi) := by
  intro pins s σ H xs us Q I r h
  obtain ⟨F, ds, t, hk, hs, ht, hb, q⟩ := h
  match ds, hk, hb with
  | [d, .ty n], hk, hb =>
    obtain ⟨v, u, rfl, k, k2⟩ := hk.two
    cases (show RP X.K F u (.ty n) from k2)
    have hb : (match isTy d n with | some b => some (T.fz (.bl b)) | none => none) = some t := hb
    cases e1 : isTy d n with
    | none => rw [e1] at hb; cases hb
    | some b =>
      rw [e1] at hb
      exact call_isi pins s σ H _ us Q I r ⟨v, .ty n, _, _, b, rfl, .ty n, tyOf hs k e1, kit_isTy e1, q _ _ (by rw [← Option.some.inj hb]; exact .val (.bl _))⟩
  | [d, .tup (t0 :: ts)], hk, hb =>
    obtain ⟨v, u, rfl, k, a, cs, rfl, k1, k2⟩ := hk.two
    have hb : (match isTys d (t0 :: ts) with | some b => some (T.fz (.bl b)) | none => none) = some t := hb
    cases e1 : isTys d (t0 :: ts) with
    | none => rw [e1] at hb; cases hb
    | some b =>
      rw [e1] at hb
      have e2 := (Option.some.inj hb).symm
      obtain ⟨n, b', e3⟩ := isTys_ty (by simp) e1
      obtain ⟨us', p1, p2⟩ := kit_isTys (K := X.K) e1 k2
      rcases k1 with k1 | ⟨o, its, n, k1, k3, k4, k5, k6⟩
      · exact call_isiT pins s σ H _ us Q I r ⟨v, a, cs, _, us', b, rfl, k1, p1, tyOf hs k e3, p2, q _ _ (by rw [e2]; exact .val (.bl _))⟩
      · have e4 := ClsV.all p1 k6
        obtain ⟨oc, od, dt, sl⟩ := o
        simp only at k3 k4
        subst k3 k4
        exact call_isiK pins s σ H _ us Q I r ⟨v, a, od, us', n, sl, _, b, rfl, by rw [k1, ← e4], tyOf hs k e3, p2, q _ _ (by rw [e2]; exact .val (.bl _))⟩
end
end Fx

set_option Elab.async false
set_option linter.all false
set_option maxRecDepth 100000
/-! Fx: calls with keywords. -/
namespace Fx
open PySem PySem.Spec PyProof.Rows L2
section
variable {w : Wd} {G : Gh} {L P : List Addr} {σ : SSt} {F F' H H' : Hp} {e e' : Env} {K : PySem.W.Frag}
/-- results and values, exchanged alike -/
theorem Pd.shuffle {l m : List (R × V)} (h : l.Perm m) : ∀ {fp : List Addr}, Pd K F H σ (l.map (·.1)) (l.map (·.2)) fp → ∃ fq, Pd K F H σ (m.map (·.1)) (m.map (·.2)) fq ∧ fp.Perm fq := by
  induction h with
  | nil => exact fun h => ⟨_, h, .refl _⟩
  | cons x _ ih =>
    intro fp h
    obtain ⟨r, v⟩ := x
    cases h with
    | t a b =>
      obtain ⟨fq, q1, q2⟩ := ih b
      exact ⟨_, .t a q1, q2.append_left _⟩
    | p a b =>
      obtain ⟨fq, q1, q2⟩ := ih b
      exact ⟨_, .p a q1, q2⟩
  | swap x y l =>
    intro fp h
    obtain ⟨r, v⟩ := x
    obtain ⟨r', v'⟩ := y
    cases h with
    | t a b =>
      cases b with
      | t c d => exact ⟨_, .t c (.t a d), List.perm_append_comm_assoc _ _ _⟩
      | p c d => exact ⟨_, .p c (.t a d), .refl _⟩
    | p a b =>
      cases b with
      | t c d => exact ⟨_, .t c (.p a d), .refl _⟩
      | p c d => exact ⟨_, .p c (.p a d), .refl _⟩
  | trans _ _ ih1 ih2 =>
    intro fp h
    obtain ⟨fq, q1, q2⟩ := ih1 h
    obtain ⟨fr, r1, r2⟩ := ih2 q1
    exact ⟨fr, r1, q2.trans r2⟩
theorem getD_fst {α β : Type} : ∀ {xs : List α} {ys : List β} (k : Nat) (d : α) (d' : β), ys.length = xs.length → ((xs.zip ys).getD k (d, d')).1 = xs.getD k d ∧ ((xs.zip ys).getD k (d, d')).2 = ys.getD k d'
  | [], [], k, d, d', _ => ⟨rfl, rfl⟩
  | x :: xs, y :: ys, 0, d, d', _ => ⟨rfl, rfl⟩
  | x :: xs, y :: ys, k + 1, d, d', h => getD_fst (xs := xs) (ys := ys) k d d' (by simpa using h)
theorem RRs.shuffle {rs : List R} {vs : List V} {perm : List Nat} {d : R} {d' : V} (R : RRs K G L P σ rs e F H vs) (hp : perm.Perm (List.range rs.length)) : RRs K G L P σ (perm.map fun k => rs.getD k d) e F H (perm.map fun k => vs.getD k d') := by
  have hl := R.len
  obtain ⟨fps, h, R⟩ := R
  have h1 : (rs.zip vs).map (·.1) = rs := List.map_fst_zip (by omega)
  have h2 : (rs.zip vs).map (·.2) = vs := List.map_snd_zip (by omega)
  have hz : (rs.zip vs).length = rs.length := by rw [List.length_zip]; omega
  have hq : (rs.zip vs).Perm (perm.map fun k => (rs.zip vs).getD k (d, d')) := by
    have := (hp.map fun k => (rs.zip vs).getD k (d, d')).symm
    rw [← hz, range_getD] at this
    exact this
  have h' : Pd K F H σ ((rs.zip vs).map (·.1)) ((rs.zip vs).map (·.2)) fps := by rw [h1, h2]; exact h
  obtain ⟨fq, q1, q2⟩ := Pd.shuffle hq h'
  have e1 : (perm.map fun k => (rs.zip vs).getD k (d, d')).map (·.1) = perm.map fun k => rs.getD k d := by
    rw [List.map_map]
    refine List.map_congr_left fun k _ => ?_
    exact (getD_fst k d d' hl).1
  have e2 : (perm.map fun k => (rs.zip vs).getD k (d, d')).map (·.2) = perm.map fun k => vs.getD k d' := by
    rw [List.map_map]
    refine List.map_congr_left fun k _ => ?_
    exact (getD_fst k d d' hl).2
  rw [e1, e2] at q1
  exact ⟨fq, q1, R.perm (q2.append_right P)⟩
def Es.app : Es → Es → Es
  | .nil, b => b
  | .cons x a, b => .cons x (a.app b)
  | .star x a, b => .star x (a.app b)
theorem bnd_asc {α β γ : Type} (o : Out α) (f : α → Env → Out β) (g : β → Env → Out γ) : (o.bnd f).bnd g = o.bnd fun a e => (f a e).bnd g := by cases o <;> rfl
theorem evs_app (C : Cf) : ∀ (a b : Es) (e : Env), evs C (a.app b) e = (evs C a e).bnd fun rs e1 => (evs C b e1).bnd fun qs e2 => .ok (rs ++ qs) e2
  | .nil, b, e => by
    simp only [Es.app, evs, Out.bnd]
    cases evs C b e <;> rfl
  | .cons x a, b, e => by
    simp only [Es.app, evs, bnd_asc]
    congr 1; funext r e1
    rw [evs_app C a b e1]
    cases evs C a e1 with
    | ok rs e2 =>
      simp only [Out.bnd]
      cases evs C b e2 <;> rfl
    | exc _ _ _ => rfl
    | bad => rfl
  | .star x a, b, e => by
    simp only [Es.app, evs, bnd_asc]
    congr 1; funext r e1
    cases mvF r e1 with
    | none => rfl
    | some p =>
      obtain ⟨d, e2⟩ := p
      simp only
      cases itemsD d with
      | none => rfl
      | some ds =>
        simp only
        rw [evs_app C a b e2]
        cases evs C a e2 with
        | ok rs e3 =>
          simp only [Out.bnd]
          cases evs C b e3 <;> simp
        | exc _ _ _ => rfl
        | bad => rfl
/-- the rest of the arguments, those ahead pending -/
theorem Po.nextS {α' β' : Type} {rep' : α' → Env → Hp → Hp → β' → Prop} {rs : List R} {vs : List V} {b : Es} {f : List R → Env → Out α'} {Q : β' → Hp → Prop} {Q' : List V → Hp → Prop} (hR : RRs w.K G L P σ rs e F H vs)
    (h : Po w G L P σ rep' F H ((evs w.C b e).bnd f) Q) (k : ∀ qs e' zs F' H', evs w.C b e = .ok qs e' → RRs w.K G L P σ (rs ++ qs) e' F' H' (vs ++ zs) → Same F F' → Prs P L H H' → Po w G L P σ rep' F' H' (f qs e') Q → Q' zs H') : tEs w b σ H Q' := by
  obtain ⟨fps, hp, R⟩ := hR
  refine ⟨G, L, fps ++ P, e, F, R, ?_⟩
  cases eo : evs w.C b e with
  | ok qs e' =>
    intro zs F2 H2 rr s2 p2
    rw [eo] at h
    obtain ⟨fq, q1, q2⟩ := rr
    have p3 : Prs P L H H2 := p2.less fun x m => by simp [m]
    refine k qs e' zs F2 H2 eo ⟨fps ++ fq, (hp.frame s2 fun a ha => ⟨(q2.outP a (by simp [ha])).1, p2 a (.inl (by simp [ha]))⟩).app q1, q2.perm ?_⟩ s2 p3 (Po.base h s2 p3)
    rw [List.append_assoc]
    exact List.perm_append_comm_assoc _ _ _
  | exc c fs e' =>
    rw [eo] at h
    exact fun F' H' cls d r x s p => h F' H' cls d (Rel.drop r) x s (p.less fun x m => by simp [m])
  | bad => rw [eo] at h; exact h
end
/-- each argument has its reading -/
inductive PEs (X : Cx) (w : Wd) : Es → List Expr → Prop
  | nil : PEs X w .nil []
  | cons {x : E} {y : Expr} {es : Es} {ys : List Expr} : PE X y (tE w x) → isStar y = false → PEs X w es ys → PEs X w (.cons x es) (y :: ys)
section
variable {tb : Tb} {w : Wd} {k : Nat} {sc ws : Scope} {X : Cx}
theorem PEs.pa {es : Es} {ys : List Expr} (h : PEs X w es ys) : PA X ys (tEs w es) := by
  induction h with
  | nil => exact pa_nilE
  | cons h1 h2 _ ih => exact pa_consE h1 ih h2
theorem PEs.split : ∀ {ys zs : List Expr} {es : Es}, PEs X w es (ys ++ zs) → ∃ a b, es = a.app b ∧ PEs X w a ys ∧ PEs X w b zs
  | [], zs, es, h => ⟨.nil, es, rfl, .nil, h⟩
  | y :: ys, zs, _, .cons h1 h2 h3 => by
    obtain ⟨a, b, rfl, q1, q2⟩ := PEs.split (ys := ys) h3
    exact ⟨.cons _ a, b, rfl, .cons h1 h2 q1, q2⟩
theorem PEs.len {es : Es} {ys : List Expr} (h : PEs X w es ys) : es.cnt = some ys.length := by
  induction h with
  | nil => rfl
  | cons _ _ _ ih => simp [Es.cnt, ih]
theorem PEs.stars {es : Es} {ys : List Expr} (h : PEs X w es ys) : noStars ys = true := by
  induction h with
  | nil => rfl
  | cons _ h _ ih => simp [noStars, h, ih]
theorem PEs.pk : ∀ {kws : List Keyword} {es : Es}, PEs X w es (kws.map (·.value)) → PK X kws (tEs w es)
  | [], _, .nil => by
    refine ⟨fun pos pins s σ H Q I h => ?_⟩
    obtain ⟨G, L, P, e, F, R, h⟩ := h
    exact wpAny_evalAll_nil ⟨[], H, I, .nil, h [] F H (RRs.nil R) (Same.refl _) Prs.refl⟩
  | kw :: kws, _, .cons h1 h2 h3 => by
    obtain ⟨nm, v, kp⟩ := kw
    refine ⟨fun pos pins s σ H Q I h => (pk_cons (nm := nm) (kpos := kp) h1 (PEs.pk h3)).run pos pins s σ H Q I ?_⟩
    obtain ⟨G, L, P, e, F, R, h⟩ := h
    simp only [evs] at h
    refine ⟨G, L, P, e, F, R, Po.bndS h fun r e1 v F1 H1 R1 st s1 p1 h1 => ?_⟩
    obtain ⟨fps, q1, q2⟩ := R1.one st
    refine Po.nextS ⟨fps, q1, q2⟩ h1 fun qs e2 zs F2 H2 _ R2 s2 p2 h2 => ?_
    exact h2 (v :: zs) F2 H2 R2 (Same.refl _) Prs.refl
/-- the keywords' names -/
def kwNames (kws : List Keyword) : List Str := kws.filterMap (·.arg)
theorem kw_all {env : PySem.Env} {pos : Pos} : ∀ {kws : List Keyword}, (kws.all fun q => q.arg.isSome) = true → (backToKw pos (keywordEach kws env)).all (·.1.isSome) = true
  | [], _ => rfl
  | ⟨nm, v, kp⟩ :: kws, h => by
    rw [List.all_cons, Bool.and_eq_true] at h
    show (nm.isSome && (backToKw pos (keywordEach kws env)).all (·.1.isSome)) = true
    rw [kw_all h.2, Bool.and_true]
    exact h.1
theorem kw_names {env : PySem.Env} {pos : Pos} : ∀ {kws : List Keyword}, (backToKw pos (keywordEach kws env)).filterMap (·.1) = kwNames kws
  | [] => rfl
  | ⟨nm, v, kp⟩ :: kws => by
    have ih := kw_names (env := env) (pos := pos) (kws := kws)
    show List.filterMap (·.1) ((nm, _) :: backToKw pos (keywordEach kws env)) = List.filterMap (·.arg) (⟨nm, v, kp⟩ :: kws)
    rw [List.filterMap_cons, List.filterMap_cons]
    cases nm with
    | none => exact ih
    | some z => exact congrArg (z :: ·) ih
theorem kw_nn {env : PySem.Env} {pos : Pos} : ∀ {kws : List Keyword}, (kws.all fun q => q.arg.isSome) = true → (backToKw pos (keywordEach kws env)).any (·.1.isNone) = false
  | [], _ => rfl
  | ⟨nm, v, kp⟩ :: kws, h => by
    rw [List.all_cons, Bool.and_eq_true] at h
    show (nm.isNone || (backToKw pos (keywordEach kws env)).any (·.1.isNone)) = false
    rw [kw_nn h.2, Bool.or_false]
    have := h.1
    cases nm with
    | none => cases this
    | some _ => rfl
def kwOk (tb : Tb) (C : Cf) (sc : Scope) (i : Nat) (es : Es) (perm : List Nat) (x : Str) (n : Nat) (kws : List Keyword) : Bool :=
  (match tb.fnm i with | some (y, ps) => decide (x = y) && (decide (es.cnt = some ps.length) && (shapeOk ps n (kwNames kws) perm && perm.isPerm (List.range ps.length))) | none => false) && ((C.ft i).isSome && (gloB sc x && (!dunder x && (kws.all (fun q => q.arg.isSome) && !perm.isEmpty))))
theorem valsGetD {vs : List V} {us : List Value} (h : Vals vs us) (k : Nat) : RelV (vs.getD k .non) (us.getD k .none) := by
  induction h generalizing k with
  | nil => rfl
  | cons r _ ih =>
    cases k with
    | zero => simpa using r
    | succ k => simpa using ih k
theorem vals_map {vs : List V} {us : List Value} (h : Vals vs us) : ∀ (l : List Nat), Vals (l.map fun k => vs.getD k .non) (l.map fun k => us.getD k .none)
  | [] => .nil
  | k :: l => .cons (valsGetD h k) (vals_map h l)
theorem pe_callKw {i : Nat} {es : Es} {perm : List Nat} {x : Str} {ys : List Expr} {kws : List Keyword} {p pos : Pos} (g : Gd tb w k sc ws X) (hc : kwOk tb w.C sc i es perm x ys.length kws = true) (hs : PEs X w es (ys ++ kws.map (·.value))) :
    PE X (.Call (.Name x p) ys kws pos) (tE w (.call i es perm)) := by
  unfold kwOk at hc
  simp only [Bool.and_eq_true, Bool.not_eq_true'] at hc
  obtain ⟨h1, h2, h3, h4, h5, h6⟩ := hc
  obtain ⟨fn, hf⟩ := Option.isSome_iff_exists.mp h2
  obtain ⟨x', ps, e1, ⟨f, fd, q1, q2, q3, q4, q5⟩⟩ := g.fns i fn hf
  rw [e1] at h1
  simp only [Bool.and_eq_true, decide_eq_true_eq] at h1
  obtain ⟨rfl, hn, hsh, hpm⟩ := h1
  have hpm := List.isPerm_iff.mp hpm
  unfold dunder at h4
  rw [Bool.or_eq_false_iff] at h4
  obtain ⟨a, b, rfl, pa, pb⟩ := hs.split
  have hsp := hsh
  simp only [shapeOk, Bool.and_eq_true, decide_eq_true_eq] at hsp
  -- what the call does behind the arguments
  have fin : ∀ {pins : List (Addr × Obj)} {s : Shared} {σ : SSt} {H : Hp} {Q : VK} {us ws : List Value} {vs zs : List V}, Inv X pins σ H s → Vals vs us → Vals zs ws → vs.length = ys.length → zs.length = (kwNames kws).length →
      spOf w.K w.xt ps.length fn (perm.map fun k => (vs ++ zs).getD k .non) H Q (WE w.W σ) → wpAny (model X.prog X.w) X.A (call (.ref f) us ((kwNames kws).zip ws)) (EP X pins σ Q) X.xe s := fun {pins s σ H Q us ws vs zs} I r rz l1 l2 h => by
    rw [← g.K] at h
    have hb : bindArgs fd ⟨us, (kwNames kws).zip ws⟩ = pure (ps.zip (perm.map fun k => (us ++ ws).getD k .none)) := q4 _ _ _ hsh us ws (by rw [← r.length]; exact l1) (by rw [← rz.length]; exact l2)
    refine wpAny_call (codeAny_mono (q5.run X.A X.stack s H ⟨us, (kwNames kws).zip ws⟩ _ _ Q (WE w.W σ) g.room I.env0 (.of_eq hb) (vals_map (r.append rz) perm) h) fun r s' hq => ?_)
    cases r with
    | error e => exact passAt g.takes σ pins H s e s' I hq
    | ok fl =>
      cases fl with
      | ret u => exact I.after hq
      | next => exact False.elim hq
      | brk => exact False.elim hq
      | cont => exact False.elim hq
  -- the reading
  have rdg : ∀ {σ : SSt} {H : Hp} {Q : VK}, tE w (.call i (a.app b) perm) σ H Q → tEs w a σ H fun vs H1 => tEs w b σ H1 fun zs H2 => vs.length = ys.length ∧ zs.length = (kwNames kws).length ∧ spOf w.K w.xt ps.length fn (perm.map fun k => (vs ++ zs).getD k .non) H2 Q (WE w.W σ) := fun {σ H Q} h => by
    obtain ⟨G, L, P, e, F, R, h⟩ := h
    simp only [ev, evs_app, bnd_asc] at h
    refine ⟨G, L, P, e, F, R, Po.bnd h fun rs e1 vs F1 H1 ea R1 s1 p1 h1 => ?_⟩
    refine Po.nextS R1 h1 fun qs e2 zs F2 H2 eb R2 s2 p2 h2 => ?_
    have la : rs.length = ys.length := evs_len pa.len ea
    have lb : qs.length = (kws.map (·.value)).length := evs_len pb.len eb
    have lk : (kwNames kws).length = kws.length := by
      have : ∀ {kws : List Keyword}, (kws.all fun q => q.arg.isSome) = true → (kwNames kws).length = kws.length := fun {kws} => by
        induction kws with
        | nil => intro _; rfl
        | cons q kws ih =>
          intro h
          rw [List.all_cons, Bool.and_eq_true] at h
          obtain ⟨z, hz⟩ := Option.isSome_iff_exists.mp h.1
          show (List.filterMap (·.arg) (q :: kws)).length = _
          rw [List.filterMap_cons, hz]
          exact congrArg (· + 1) (ih h.2)
      exact this h5
    have R2' : RRs w.K G L P σ (rs ++ qs) e2 F2 H2 (vs ++ zs) := R2
    have hlen := R2'.len
    have l1 : vs.length = ys.length := by rw [R1.len]; exact la
    rw [List.length_append, List.length_append] at hlen
    rw [List.length_map] at lb
    refine ⟨l1, by omega, ?_⟩
    simp only [Out.bnd, hf, h6, Bool.false_eq_true, if_false] at h2
    have hp : perm.Perm (List.range (rs ++ qs).length) := by
      have : (rs ++ qs).length = ps.length := by
        have := hsp.1.1.1.1
        rw [List.length_append]; omega
      rw [this]; exact hpm
    have R3 := R2'.shuffle (d := default) (d' := .non) hp
    refine callF_run R3 ?_ h2
    rw [List.length_map, hpm.length_eq, List.length_range]
  cases ys with
  | nil =>
    cases pa
    refine ⟨fun pins s σ H Q I h => ?_⟩
    refine wpAny_Call_Name_kw (ld_glob I (glo_of g h3) q1 ?_ h4.1)
    obtain ⟨G, L, P, e, F, R, hr⟩ := rdg h
    have hr := hr [] F H (RRs.nil R) (Same.refl _) Prs.refl
    refine PySem.W.callWith_KW0 (h₀ := X.base) I.ok.mod.kin q2 (kw_all h5) ?_ (by rw [Bool.or_eq_false_iff]; exact ⟨rfl, kw_nn h5⟩)
    refine thn (pb.pk.run pos pins s σ H _ I hr) fun ws s2 ⟨zs, H2, I2, rz, l1, l2, q⟩ => ⟨I2.kIn, ?_⟩
    rw [kw_names]
    exact fin (us := []) (vs := []) I2 .nil rz l1 l2 q
  | cons y ys =>
    have st := pa.stars
    simp only [noStars, Bool.and_eq_true, Bool.not_eq_true'] at st
    refine ⟨fun pins s σ H Q I h => ?_⟩
    refine wpAny_Call_Name_kw (ld_glob I (glo_of g h3) q1 ?_ h4.1)
    refine PySem.W.callWith_KW (h₀ := X.base) I.ok.mod.kin q2 (kw_all h5) (thn (pa.pa.run pos pins s σ H _ I (rdg h)) fun us s1 ⟨vs, H1, I1, r, q⟩ => ?_) (by
      rw [Bool.or_eq_false_iff]
      refine ⟨?_, kw_nn h5⟩
      rw [star_of st.1]
      exact noStars_each (xs := ys) st.2) (star_of st.1)
    refine thn (pb.pk.run pos pins s1 σ H1 _ I1 q) fun ws s2 ⟨zs, H2, I2, rz, l1, l2, q⟩ => ⟨I2.kIn, ?_⟩
    rw [kw_names]
    exact fin I2 r rz l1 l2 q
end
end Fx

set_option Elab.async false
set_option linter.all false
set_option maxRecDepth 100000
set_option maxHeartbeats 1000000
/-! Fx: sorted, of a list or a tuple, of whole numbers or of tuples of them. -/
namespace Fx
open PySem PySem.Spec PyProof.Rows L2
/-! ### the order -/
theorem ltL_asym : ∀ x y : List Int, ltL x y = true → ltL y x = false
  | [], [], h => by simp [ltL] at h
  | [], _ :: _, _ => rfl
  | _ :: _, [], h => by simp [ltL] at h
  | a :: as, b :: bs, h => by
    simp only [ltL] at h ⊢
    by_cases e : a = b
    · subst e
      simp only [if_true] at h ⊢
      exact ltL_asym as bs h
    · rw [if_neg e] at h
      rw [if_neg (fun z => e z.symm)]
      simp only [decide_eq_true_eq] at h
      exact decide_eq_false (by omega)
theorem ltL_conn : ∀ x y : List Int, ltL x y = false → ltL y x = false → x = y
  | [], [], _, _ => rfl
  | [], _ :: _, h, _ => by simp [ltL] at h
  | _ :: _, [], _, h => by simp [ltL] at h
  | a :: as, b :: bs, h, h2 => by
    simp only [ltL] at h h2
    by_cases e : a = b
    · subst e
      simp only [if_true] at h h2
      rw [ltL_conn as bs h h2]
    · rw [if_neg e] at h
      rw [if_neg (fun z => e z.symm)] at h2
      simp only [decide_eq_false_iff_not] at h h2
      omega
theorem ltL_tr : ∀ x y z : List Int, ltL x y = true → ltL y z = true → ltL x z = true
  | [], [], _, h, _ => by simp [ltL] at h
  | [], _ :: _, [], _, h => by simp [ltL] at h
  | [], _ :: _, _ :: _, _, _ => rfl
  | _ :: _, [], _, h, _ => by simp [ltL] at h
  | _ :: _, _ :: _, [], _, h => by simp [ltL] at h
  | a :: as, b :: bs, c :: cs, h, h2 => by
    simp only [ltL] at h h2 ⊢
    by_cases e : a = b
    · subst e
      simp only [if_true] at h
      by_cases e2 : a = c
      · subst e2
        simp only [if_true] at h2 ⊢
        exact ltL_tr as bs cs h h2
      · rw [if_neg e2] at h2 ⊢; exact h2
    · rw [if_neg e] at h
      simp only [decide_eq_true_eq] at h
      by_cases e2 : b = c
      · subst e2
        rw [if_neg e]
        exact decide_eq_true h
      · rw [if_neg e2] at h2
        simp only [decide_eq_true_eq] at h2
        rw [if_neg (by omega)]
        exact decide_eq_true (by omega)
theorem ltL_irr (x : List Int) : ltL x x = false := by
  cases h : ltL x x with
  | false => rfl
  | true => rw [ltL_asym x x h] at h; cases h
/-- not above -/
theorem leL_tr (x y z : List Int) (h1 : ltL y x = false) (h2 : ltL z y = false) : ltL z x = false := by
  cases h : ltL z x with
  | false => rfl
  | true =>
    cases h3 : ltL x y with
    | true => rw [ltL_tr z x y h h3] at h2; cases h2
    | false => rw [ltL_conn x y h3 h1] at h; rw [h2] at h; cases h
theorem swo_L : SrtO.Swo ltL := ⟨ltL_asym, leL_tr⟩
theorem swo_key (k : Value → List Int) : SrtO.Swo fun v u => ltL (k v) (k u) := ⟨fun x y => ltL_asym _ _, fun x y z => leL_tr _ _ _⟩
theorem insL_perm (x : List Int) : ∀ l : List (List Int), (insL x l).Perm (x :: l)
  | [] => .refl _
  | y :: ys => by
    simp only [insL]
    split
    · exact ((insL_perm x ys).cons y).trans (.swap _ _ _)
    · exact .refl _
theorem sortL_perm : ∀ l : List (List Int), (sortL l).Perm l
  | [] => .refl _
  | x :: xs => (insL_perm x (sortL xs)).trans ((sortL_perm xs).cons x)
theorem insL_srt (x : List Int) : ∀ {l : List (List Int)}, SrtO.Srtd ltL l → SrtO.Srtd ltL (insL x l)
  | [], _ => List.pairwise_singleton _ _
  | y :: ys, h => by
    obtain ⟨h1, h2⟩ := List.pairwise_cons.mp h
    simp only [insL]
    split
    · rename_i c
      refine List.pairwise_cons.mpr ⟨fun z hz => ?_, insL_srt x h2⟩
      rcases List.mem_cons.mp ((insL_perm x ys).mem_iff.mp hz) with e | e
      · subst e; exact ltL_asym _ _ c
      · exact h1 z e
    · rename_i c
      refine List.pairwise_cons.mpr ⟨fun z hz => ?_, h⟩
      rcases List.mem_cons.mp hz with e | e
      · subst e; simpa using c
      · exact leL_tr x y z (by simpa using c) (h1 z e)
theorem sortL_srt : ∀ l : List (List Int), SrtO.Srtd ltL (sortL l)
  | [] => .nil
  | x :: xs => insL_srt x (sortL_srt xs)
/-- sorted ones of the same items are the same -/
theorem srtL_uniq : ∀ {l m : List (List Int)}, SrtO.Srtd ltL l → SrtO.Srtd ltL m → l.Perm m → l = m
  | [], m, _, _, p => by cases p.nil_eq; rfl
  | x :: l, [], _, _, p => by cases p.eq_nil
  | x :: l, y :: m, hl, hm, p => by
    obtain ⟨h1, h2⟩ := List.pairwise_cons.mp hl
    obtain ⟨k1, k2⟩ := List.pairwise_cons.mp hm
    have e : x = y := by
      refine ltL_conn x y ?_ ?_
      · rcases List.mem_cons.mp (p.mem_iff.mp (List.mem_cons_self (a := x) (l := l))) with z | z
        · rw [z]; exact ltL_irr y
        · exact k1 x z
      · rcases List.mem_cons.mp (p.mem_iff.mpr (List.mem_cons_self (a := y) (l := m))) with z | z
        · rw [z]; exact ltL_irr x
        · exact h1 y z
    subst e
    rw [srtL_uniq h2 k2 p.cons_inv]
theorem insI_perm (x : Int) : ∀ l : List Int, (insI x l).Perm (x :: l)
  | [] => .refl _
  | y :: ys => by
    simp only [insI]
    split
    · exact .refl _
    · exact ((insI_perm x ys).cons y).trans (.swap _ _ _)
theorem sortI_perm : ∀ l : List Int, (sortI l).Perm l
  | [] => .refl _
  | x :: xs => (insI_perm x (sortI xs)).trans ((sortI_perm xs).cons x)
theorem insI_srt (x : Int) : ∀ {l : List Int}, l.Pairwise (· ≤ ·) → (insI x l).Pairwise (· ≤ ·)
  | [], _ => List.pairwise_singleton _ _
  | y :: ys, h => by
    obtain ⟨h1, h2⟩ := List.pairwise_cons.mp h
    simp only [insI]
    split
    · rename_i c
      refine List.pairwise_cons.mpr ⟨fun z hz => ?_, h⟩
      rcases List.mem_cons.mp hz with e | e
      · subst e; exact c
      · exact Int.le_trans c (h1 z e)
    · rename_i c
      refine List.pairwise_cons.mpr ⟨fun z hz => ?_, insI_srt x h2⟩
      rcases List.mem_cons.mp ((insI_perm x ys).mem_iff.mp hz) with e | e
      · subst e; omega
      · exact h1 z e
theorem sortI_srt : ∀ l : List Int, (sortI l).Pairwise (· ≤ ·)
  | [] => .nil
  | x :: xs => insI_srt x (sortI_srt xs)
theorem srtI_uniq : ∀ {l m : List Int}, l.Pairwise (· ≤ ·) → m.Pairwise (· ≤ ·) → l.Perm m → l = m
  | [], m, _, _, p => by cases p.nil_eq; rfl
  | x :: l, [], _, _, p => by cases p.eq_nil
  | x :: l, y :: m, hl, hm, p => by
    obtain ⟨h1, h2⟩ := List.pairwise_cons.mp hl
    obtain ⟨k1, k2⟩ := List.pairwise_cons.mp hm
    have e : x = y := by
      refine Int.le_antisymm ?_ ?_
      · rcases List.mem_cons.mp (p.mem_iff.mpr (List.mem_cons_self (a := y) (l := m))) with z | z
        · rw [z]; exact Int.le_refl _
        · exact h1 y z
      · rcases List.mem_cons.mp (p.mem_iff.mp (List.mem_cons_self (a := x) (l := l))) with z | z
        · rw [z]; exact Int.le_refl _
        · exact k1 x z
    subst e
    rw [srtI_uniq h2 k2 p.cons_inv]
/-! ### what is collected: of a list, of a tuple -/
section
variable {prog : Program} {w : World} {A : Around} {E : Value → Shared → Prop} {s : Shared}
def colHeap (h : Heap) (vs : List Value) : Heap := (h.push (seqObj "list" #[] 0)).update h.objs.size (Obj.mapSeq (· ++ vs.toArray))
def Col (prog : Program) (w : World) (s : Shared) (l : Addr) (vs : List Value) : Prop := ∀ (A : Around) (E : Value → Shared → Prop) (Q : List Value → Shared → Prop), Q vs { s with heap := colHeap s.heap vs } → wpAny (model prog w) A (collect (.ref l)) Q E s
theorem col_tup {l : Addr} {its : Array Value} (hl : IsTup s.heap l its) (hz : its.size ≤ sizeLine) : Col prog w s l its.toList := by
  intro A E Q h
  obtain ⟨o, ho, hc, n, hd⟩ := id hl
  unfold collect
  refine wpAny_bind (wpAny_runValue (codeAny_builtin entry_proto_collect' ?_))
  show wpAny _ _ (do again (.builtin "list.__iadd__" ⟨[← newList [], .ref l], []⟩)) _ _ s
  refine wpAny_bind (wpAny_newList (wpAny_pure ⟨Code.quiet_builtin _ (by decide +kernel), codeAny_builtin entry_list_iadd' ?_⟩))
  show wpAny _ _ (Builtin.List.listExtendWith (.ref s.heap.objs.size) (.ref l) (.ref s.heap.objs.size)) _ _ { s with heap := s.heap.push (seqObj "list" #[] 0) }
  unfold Builtin.List.listExtendWith
  have ho' : (s.heap.push (seqObj "list" #[] 0)).get? l = some o := Heap.get?_push_of_some _ ho
  refine wpAny_bind (wpAny_typeOf (T := "tuple") ⟨o, ho', hc⟩ ?_)
  have ht : (Value.type "tuple" == Value.type "tuple") = true := by rfl
  rw [if_pos (by rw [ht]; simp)]
  refine wpAny_bind (listItems_at ho' hd ?_)
  refine wpAny_bind (listItems_at (xs := #[]) (n := 0) (Heap.get?_push_size _ rfl) rfl ?_)
  rw [if_neg (by simp)]
  refine wpAny_bind (listUpdate_at (xs := #[]) (n := 0) (Heap.get?_push_size _ rfl) rfl ?_ (Nat.zero_le _) (by show (#[] ++ its).size ≤ sizeLine + 1; simp only [Array.size_append, List.size_toArray, List.length_nil]; omega))
  refine wpAny_pure ?_
  have e0 : its = its.toList.toArray := by simp
  show wpAny (model prog w) A (do
      let o ← load s.heap.objs.size
      match o.data with
      | .seq xs _ => pure xs.toList
      | _ => unsupported "internal:collect") Q E { s with heap := (s.heap.push (seqObj "list" #[] 0)).update s.heap.objs.size (Obj.mapSeq (· ++ its)) }
  refine wpAny_bind (wpAny_load (get?_update_seq (Heap.get?_push_size _ rfl) _) ?_)
  show wpAny _ _ (pure ((#[] : Array Value) ++ its).toList) Q E _
  rw [show ((#[] : Array Value) ++ its).toList = its.toList by simp]
  refine wpAny_pure ?_
  have : colHeap s.heap its.toList = (s.heap.push (seqObj "list" #[] 0)).update s.heap.objs.size (Obj.mapSeq (· ++ its)) := by unfold colHeap; rw [← e0]
  rw [← this]; exact h
theorem col_list {l : Addr} {vs : List Value} (hl : s.heap.IsList l vs.toArray) (hz : vs.length ≤ sizeLine) : Col prog w s l vs := fun A E Q h => collect_list hl h hz
theorem sorted_ordC {l : Addr} {vs : List Value} {ltv : Value → Value → Bool} {Q : Value → Shared → Prop} (O : SrtO.Swo ltv) (hl : Col prog w s l vs) (hz : vs.length ≤ sizeLine)
    (hS : 2 ≤ vs.length → ∀ (h₁ : Heap) (a : Addr), h₁.get? a = some (seqObj "list" vs.toArray 0) → (∀ b o, s.heap.get? b = some o → b ≠ a ∧ h₁.get? b = some o) → SrtO.SortableO prog w A.in1.in1 { s with heap := h₁ } a vs ltv)
    (h : ∀ out : List Value, SrtO.Srtd ltv out → SrtO.Stb ltv out vs → Q (.ref (s.heap.objs.size + 1)) { s with heap := sortedAll s.heap vs out.toArray }) :
    wpAny (model prog w) A (call (.builtin "sorted") [.ref l]) Q E s := by
  refine Calls.call_function_entry kind_sorted plain_sorted entry_sorted (args_sorted1 _) ?_
  unfold Builtin.«sorted»
  refine wpAny_bind (m := checkCount "sorted" 1 1 _) (wpAny_pure ?_)
  refine wpAny_bind (hl _ _ _ ?_)
  refine wpAny_bind (wpAny_newList ?_ hz)
  have hsz : (colHeap s.heap vs).objs.size = s.heap.objs.size + 1 := by
    unfold colHeap
    rw [Heap.size_update, size_push']
  have hoL : ((colHeap s.heap vs).push (seqObj "list" vs.toArray 0)).get? (s.heap.objs.size + 1) = some (seqObj "list" vs.toArray 0) := by
    rw [← hsz]; exact Heap.get?_push_size _ rfl
  have keep : ∀ b o, s.heap.get? b = some o → b ≠ s.heap.objs.size + 1 ∧ ((colHeap s.heap vs).push (seqObj "list" vs.toArray 0)).get? b = some o := fun b o q => by
    have hlt : b < s.heap.objs.size := Heap.lt_size q
    refine ⟨Nat.ne_of_lt (Nat.lt_succ_of_lt hlt), Heap.get?_push_of_some _ ?_⟩
    unfold colHeap
    rw [Heap.get?_update_ne _ _ _ _ (Nat.ne_of_lt hlt)]
    exact Heap.get?_push_of_some _ q
  show wpAny _ _ _ _ _ { s with heap := (colHeap s.heap vs).push (seqObj "list" vs.toArray 0) }
  rw [hsz]
  refine wpAny_bind (wpAny_holding (wpAny_call_entry slot_list_sort ⟨_, hoL, rfl⟩ entry_list_sort (SrtO.list_sort_ord O hoL hz (fun h2 => hS h2 _ _ hoL keep) fun out hs hb => ⟨_, rfl, ?_⟩) (args_list_sort _)))
  exact wpAny_pure ⟨_, rfl, h out hs hb⟩
/-! ### tuples of whole numbers -/
theorem katI (b fin : Bool) : ∀ {us vs : List Value} {ns ms : List Int} (i : Nat), IntsAre us ns → IntsAre vs ms → (b = true ∨ i ≠ 0 ∨ True) → fin = decide (ns.length < ms.length) → PySem.W.KatLex prog w A true fin (fun r s' => s' = s ∧ r = ltL ns ms) (us.zip vs) i s
  | _, _, _, _, i, .nil, .nil, _, hf => PySem.W.kat_nil ⟨rfl, hf⟩
  | _, _, _, _, i, .nil, .cons _ _ _, _, hf => PySem.W.kat_nil ⟨rfl, by rw [hf]; simp [ltL]⟩
  | _, _, _, _, i, .cons _ _ _, .nil, _, hf => PySem.W.kat_nil ⟨rfl, by rw [hf]; simp [ltL]⟩
  | _, _, _, _, i, .cons (vs := us) (ns := ns) x t hu, .cons (vs := vs) (ns := ms) y u hv, hb, hf => by
    refine PySem.W.kat_cons (SeqAt.EqAt.int_int x t y u prog w _ _ ?_)
    refine PySem.W.kat_go (fun e1 => ?_) (fun e1 => ?_)
    · have ex : x = y := by simpa using e1
      refine PySem.W.kat_yes ?_
      have := katI b fin (i + 1) hu hv (.inr (.inr trivial)) (by rw [hf]; simp)
      simp only [ltL, if_pos ex]
      exact this
    · have ex : ¬ x = y := by simpa using e1
      refine PySem.W.kat_no ?_
      have hr : s = s ∧ decide (x < y) = ltL (x :: ns) (y :: ms) := ⟨rfl, by simp only [ltL, if_neg ex]⟩
      cases i with
      | zero => exact oneLt_int hr
      | succ i => exact PySem.W.kat_one _ _ (PyProof.Rows.lt_int hr)
theorem tup_cmp {vs : List Value} {k : Value → List Int} (hp : ∀ v ∈ vs, TS.TupInts s.heap v (k v)) : SrtO.Cmp prog w A s (tuples' true) (fun p => p.1 ∈ vs) (SrtO.lt2 fun v u => ltL (k v) (k u)) := by
  intro p q hm hm'
  obtain ⟨a, xs, e, ⟨o, ho, hc, n, hd⟩, hi⟩ := hp _ hm
  obtain ⟨a', xs', e', ⟨o', ho', hc', n', hd'⟩, hi'⟩ := hp _ hm'
  show wpAny (model prog w) A (keyLt' (tuples' true) p.1 q.1) (fun r s' => s' = s ∧ r = ltL (k p.1) (k q.1)) (fun _ _ => False) s
  generalize hk : k p.1 = ns at hi ⊢
  generalize hk' : k q.1 = ms at hi' ⊢
  rw [e, e']
  refine PySem.W.kat_lt ho hd ho' hd' (katI true _ 0 hi hi' (.inl rfl) ?_)
  rw [← hi.length, ← hi'.length]; simp
theorem tup_firsts {h : Heap} : ∀ {vs : List Value}, (∀ v ∈ vs, ∃ n ns, TS.TupInts h v (n :: ns)) → ∃ fs : List Value, PySem.W.KatTups h vs fs ∧ fs.length = vs.length ∧ ∀ f ∈ fs, ∃ x t, f = Value.int x t
  | [], _ => ⟨[], PySem.W.KatTups.nil, rfl, fun _ hm => by simp at hm⟩
  | v :: vs, hp => by
    obtain ⟨fs, h1, h2, h3⟩ := tup_firsts (vs := vs) fun v' hm => hp v' (List.mem_cons_of_mem _ hm)
    obtain ⟨n, ns, a, xs, rfl, ⟨o, ho, hc, m, hd⟩, hi⟩ := hp v List.mem_cons_self
    generalize hx : xs.toList = xl at hi
    cases hi with
    | cons n t r =>
      refine ⟨.int n t :: fs, PySem.W.KatTups.cons ho hc hd ?_ h1, by rw [List.length_cons, List.length_cons, h2], fun f hm => ?_⟩
      · rw [← Array.getElem?_toList, hx]; rfl
      · rcases List.mem_cons.mp hm with rfl | hm
        · exact ⟨n, t, rfl⟩
        · exact h3 f hm
theorem tup_sortable {a : Addr} {vs : List Value} {k : Value → List Int} (h0 : 0 < vs.length) (hp : ∀ v ∈ vs, TS.TupInts s.heap v (k v) ∧ k v ≠ []) (ha : ∀ o, s.heap.get? a = some o → o.cls ≠ .type "tuple") : SrtO.SortableO prog w A s a vs fun v u => ltL (k v) (k u) := by
  intro h' keep
  have hp' : ∀ v ∈ vs, TS.TupInts h' v (k v) := fun v hm => (hp v hm).1.keeps fun b o e c => keep b o (fun z => by subst z; exact ha o e c) e
  obtain ⟨fs, h1, h2, h3⟩ := tup_firsts (h := h') (vs := vs) fun v hm => by
    cases e : k v with
    | nil => exact absurd e (hp v hm).2
    | cons n ns => exact ⟨n, ns, by rw [← e]; exact hp' v hm⟩
  refine ⟨tuples' true, fun Q E hq => ?_, tup_cmp hp'⟩
  refine PySem.W.kat_kind (T := .type "int") h1 (by omega) (fun f hm => ?_) (by rfl) ?_
  · obtain ⟨x, t, rfl⟩ := h3 f hm
    exact PySem.W.Looks.now
  · have e : (Value.type "int" != Value.type "tuple") = true := by first | decide +kernel | rfl | decide
    rw [e]
    exact hq
end
end Fx

set_option Elab.async false
set_option linter.all false
set_option maxRecDepth 100000
set_option maxHeartbeats 1000000
/-! Fx: sorted, min, max by data. -/
namespace Fx
open PySem PySem.Spec PyProof.Rows L2
section
variable {X : Cx} {F H : Hp} {pins : List (Addr × Obj)} {σ : SSt} {s : Shared}
theorem tups_vals (I : Inv X pins σ H s) (hs : Same F H) : ∀ {es : List D} {iss : List (List Int)} {xs : List V} {us : List Value}, tupsOf es = some iss → RPs X.K F xs es → Vals xs us →
    (∀ u ∈ us, ∃ b ns, u = .ref b ∧ ns ≠ [] ∧ TS.TupInts s.heap u ns ∧ RP X.K F (.ref b) (tI ns)) ∧ us.map (TS.intsOf s.heap) = iss
  | [], iss, xs, us, h, r, v => by
    simp [tupsOf] at h; subst h
    cases r; cases v
    exact ⟨fun u hu => by simp at hu, rfl⟩
  | .tup ts :: es, iss, xs, us, h, r, v => by
    simp only [tupsOf] at h
    cases e1 : intsOf ts with
    | none => rw [e1] at h; simp at h
    | some is =>
      cases is with
      | nil => rw [e1] at h; simp at h
      | cons n ns =>
        cases e2 : tupsOf es with
        | none => rw [e1, e2] at h; simp at h
        | some iss' =>
          rw [e1, e2] at h
          simp at h; subst h
          cases r with
          | cons r1 r2 =>
            cases v with
            | cons v1 v2 =>
              obtain ⟨k1, k2⟩ := tups_vals I hs e2 r2 v2
              cases r1 with
              | @tup b ys _ q1 q2 =>
                have ey := intsOf_vs e1 q2
                subst ey
                cases (show _ = Value.ref b from v1)
                obtain ⟨its, rv, hT, _⟩ := I.tuple (SqU.mn hs q1).t
                have ti : TS.TupInts s.heap (.ref b) (n :: ns) := ⟨b, its.toArray, rfl, hT, by simpa using rv.ints⟩
                refine ⟨fun u hu => ?_, ?_⟩
                · rcases List.mem_cons.mp hu with e | hu
                  · subst e
                    exact ⟨b, n :: ns, rfl, by simp, ti, .tup q1 (by rw [← intsOf_ds e1]; exact q2)⟩
                  · exact k1 u hu
                · rw [List.map_cons, ti.ints, k2]
  | .non :: _, _, _, _, h, _, _ => by simp [tupsOf] at h
  | .bl _ :: _, _, _, _, h, _, _ => by simp [tupsOf] at h
  | .int _ :: _, _, _, _, h, _, _ => by simp [tupsOf] at h
  | .str _ :: _, _, _, _, h, _, _ => by simp [tupsOf] at h
  | .lst _ :: _, _, _, _, h, _, _ => by simp [tupsOf] at h
  | .rol _ :: _, _, _, _, h, _, _ => by simp [tupsOf] at h
  | .dic _ :: _, _, _, _, h, _, _ => by simp [tupsOf] at h
  | .set _ :: _, _, _, _, h, _, _ => by simp [tupsOf] at h
  | .ty _ :: _, _, _, _, h, _, _ => by simp [tupsOf] at h
theorem rps_ints {K : PySem.W.Frag} : ∀ ns : List Int, RPs K F (ns.map V.int) (ns.map D.int)
  | [] => .nil
  | n :: ns => .cons (.int n) (rps_ints ns)
theorem rps_tups {K : PySem.W.Frag} {k : Value → List Int} : ∀ {us : List Value}, (∀ u ∈ us, ∃ b, u = .ref b ∧ RP K F (.ref b) (tI (k u))) → Vals (us.map bkV) us ∧ RPs K F (us.map bkV) ((us.map k).map tI)
  | [], _ => ⟨.nil, .nil⟩
  | u :: us, h => by
    obtain ⟨b, rfl, r⟩ := h u List.mem_cons_self
    obtain ⟨h1, h2⟩ := rps_tups (us := us) fun u m => h u (List.mem_cons_of_mem _ m)
    exact ⟨.cons rfl h1, .cons r h2⟩
/-- a list or a tuple of these items -/
theorem items_of {d : D} {ds : List D} {v : V} (I : Inv X pins σ H s) (h : RK X.K F H v d) (hi : itemsD d = some ds) : ∃ a xs its, v = .ref a ∧ RPs X.K F xs ds ∧ Vals xs its ∧ its.length ≤ sizeLine ∧ Col X.prog X.w s a its ∧ (s.heap.IsList a its.toArray ∨ IsTup s.heap a its.toArray) := by
  cases d with
  | lst es =>
    simp [itemsD] at hi; subst hi
    obtain ⟨a, xs, rfl, k1, k2⟩ := h
    obtain ⟨its, rv, hl, hz⟩ := I.list (SqL.of k1)
    have hz' : its.length ≤ sizeLine := by rw [← rv.length]; exact hz
    exact ⟨a, xs, its, rfl, k2, rv, hz', col_list hl.isList hz', .inl hl.isList⟩
  | tup es =>
    simp [itemsD] at hi; subst hi
    obtain ⟨a, xs, rfl, k1, k2⟩ := h
    obtain ⟨its, rv, hl, hz⟩ := I.tuple k1.t
    have hz' : its.length ≤ sizeLine := by rw [← rv.length]; exact hz
    exact ⟨a, xs, its, rfl, k2, rv, hz', by simpa using col_tup (prog := X.prog) (w := X.w) hl (by simpa using hz'), .inr hl⟩
  | _ => simp [itemsD] at hi
theorem bi_sorted : CallR X (.builtin "sorted") (rBi X.K .sorted) := by
  intro pins s σ H xs us Q I r h
  obtain ⟨F, ds, t, hk, hs, ht, hb, q⟩ := h
  match ds, hk, hb with
  | [d], hk, hb =>
    obtain ⟨v, rfl, k⟩ := hk.one
    have hb : (match itemsD d with | some ds => (match sortedD ds with | some es => some (ol es) | none => none) | none => none) = some t := hb
    cases ei : itemsD d with
    | none => rw [ei] at hb; cases hb
    | some es =>
      rw [ei] at hb
      simp only at hb
      cases es' : sortedD es with
      | none => rw [es'] at hb; cases hb
      | some rs =>
        rw [es'] at hb
        simp only [Option.some.injEq] at hb
        subst hb
        obtain ⟨a, xs, its, rfl, rx, rv, hz, hc, _⟩ := items_of I k ei
        rw [Vals.ref1 r]
        unfold sortedD at es'
        cases e1 : intsOf es with
        | some is =>
          rw [e1] at es'
          simp only [Option.some.injEq] at es'
          subst es'
          have ex := intsOf_vs e1 rx
          subst ex
          have hi := rv.ints
          refine sorted_ordC SrtO.swo_int hc hz (fun h2 h₁ a' _ _ => SrtO.ints_sortable hi h2) fun out h1 h2 => ?_
          obtain ⟨k1, k2, k3⟩ := SrtO.ints_out hi h1 h2
          have eo : out.map SrtO.iv = sortI is := srtI_uniq k3 (sortI_srt is) (k2.trans (sortI_perm is).symm)
          rw [eo] at k1
          obtain ⟨ep, he'⟩ := PyProof.Rows.sortedAll_at s.heap its out.toArray
          have hlen : ((sortI is).map V.int).length ≤ sizeLine := by
            rw [List.length_map, (sortI_perm is).length_eq]
            have := rv.length
            rw [List.length_map] at this
            omega
          exact ⟨.ref _, upd H (s.heap.objs.size + 1) (.lst ((sortI is).map V.int)), I.laid (t' := s.toks) (fun _ _ => PyProof.Rows.sortedAll_old) (Nat.le_succ _) ⟨hlen, out, ep, vals_of_ints k1, he'⟩, rfl, q _ _ (.lst (I.hok.fresh (Nat.le_succ _)) (rps_ints _))⟩
        | none =>
          rw [e1] at es'
          simp only at es'
          cases e2 : tupsOf es with
          | none => rw [e2] at es'; cases es'
          | some iss =>
            rw [e2] at es'
            simp only [Option.some.injEq] at es'
            subst es'
            obtain ⟨t1, t2⟩ := tups_vals I hs e2 rx rv
            refine sorted_ordC (swo_key (TS.intsOf s.heap)) hc hz (fun h2 h₁ a' ha kk => tup_sortable (by omega) (fun v hv => ?_) fun o e => ?_) fun out h1 h2 => ?_
            · obtain ⟨b, ns, rfl, hn, ti, _⟩ := t1 v hv
              rw [ti.ints]
              exact ⟨ti.keeps fun b o e _ => (kk b o e).2, hn⟩
            · have e' : some o = some (seqObj "list" its.toArray 0) := e.symm.trans ha
              cases e'
              intro c
              exact absurd (Value.type.inj c) (by decide)
            · have hp := h2.perm
              obtain ⟨v1, v2⟩ := rps_tups (K := X.K) (F := F) (k := TS.intsOf s.heap) (us := out) fun u hu => by
                obtain ⟨b, ns, rfl, hn, ti, rp⟩ := t1 u (hp.mem_iff.mp hu)
                exact ⟨b, rfl, by rw [ti.ints]; exact rp⟩
              have eo : out.map (TS.intsOf s.heap) = sortL iss := srtL_uniq (List.pairwise_map.mpr h1) (sortL_srt iss) (by
                have := hp.map (TS.intsOf s.heap)
                rw [t2] at this
                exact this.trans (sortL_perm iss).symm)
              rw [eo] at v2
              obtain ⟨ep, he'⟩ := PyProof.Rows.sortedAll_at s.heap its out.toArray
              have hlen : (out.map bkV).length ≤ sizeLine := by rw [List.length_map, hp.length_eq]; exact hz
              exact ⟨.ref _, upd H (s.heap.objs.size + 1) (.lst (out.map bkV)), I.laid (t' := s.toks) (fun _ _ => PyProof.Rows.sortedAll_old) (Nat.le_succ _) ⟨hlen, out, ep, v1, he'⟩, rfl, q _ _ (.lst (I.hok.fresh (Nat.le_succ _)) v2)⟩
theorem max_rawT {prog : Program} {w : World} {A : Around} {E : Value → Shared → Prop} {t : Addr} {its : List Value} {ns : List Int} {Q : Value → Shared → Prop} (hh : A.handled = none) (hl : s.heap.IsTuple t its.toArray) (hi : IntsAre its ns) (hne : 0 < ns.length)
    (h : ∀ h' tk M t', (∀ b o, s.heap.get? b = some o → h'.get? b = some o) → M ∈ ns → (∀ a, a ∈ ns → a ≤ M) → Q (.int M t') { s with heap := h', toks := tk }) : wpAny (model prog w) A (call (.builtin "max") [.ref t]) Q E s := by
  obtain ⟨xs, e⟩ := hi.allInts.items
  have hn : numsOf (intItems xs).toList = ns := by rw [← e]; exact hi.numsOf
  rw [nums_intItems] at hn
  subst hn
  rw [e] at hl
  have hsz : 0 < xs.size := by simpa using hne
  have hlt : t < s.heap.objs.size := by obtain ⟨_, e, _⟩ := hl; exact Heap.lt_size e
  refine call_max_walk (wpAny_pyIter_tuple hl ⟨_, _, _, _, _, _, _, rfl, Walks.tuple (A := A.in1) hh _ t (Nat.ne_of_lt hlt) (intItems xs), ⟨⟨_, Heap.get?_push_size _ rfl, rfl, rfl⟩, hl.push _⟩, fun b hb => ?_, by simpa [intItems] using hsz, CmpOf.ints_gt (numAt xs) (fun _ _ => intItems_at), fun v h' tk hP hk => ?_⟩)
  · show b < (s.heap.push _).objs.size
    rw [Heap.size_push]
    rcases List.mem_cons.mp hb with rfl | hb
    · exact Nat.lt_succ_self _
    · rcases List.mem_cons.mp hb with rfl | hb
      · exact Nat.lt_succ_of_lt hlt
      · cases hb
  · have hv : (intItems xs)[argBest (fun i j => decide (numAt xs i > numAt xs j)) (xs.size - 1)]? = some v := by simpa [intItems] using hP
    obtain ⟨t, rfl⟩ := intItems_at hv
    obtain ⟨h1, h2⟩ := argBest_gt (numAt xs) (xs.size - 1)
    refine h h' tk _ t (fun b o eo => hk b o (fun hmem => ?_) (Heap.get?_push_of_some _ eo)) ?_ fun a ha => ?_
    · rcases List.mem_cons.mp hmem with e1 | hmem
      · exact absurd (e1 ▸ Heap.lt_size eo) (Nat.lt_irrefl _)
      · cases hmem
    · rw [numAt_eq]; exact PySem.getD_mem (by rw [List.length_map, Array.length_toList]; omega)
    · obtain ⟨j, hj, rfl⟩ := mem_getD ha
      rw [List.length_map, Array.length_toList] at hj
      rw [← numAt_eq]; exact h2 j (by omega)
theorem min_rawT {prog : Program} {w : World} {A : Around} {E : Value → Shared → Prop} {t : Addr} {its : List Value} {ns : List Int} {Q : Value → Shared → Prop} (hh : A.handled = none) (hl : s.heap.IsTuple t its.toArray) (hi : IntsAre its ns) (hne : 0 < ns.length)
    (h : ∀ h' tk M t', (∀ b o, s.heap.get? b = some o → h'.get? b = some o) → M ∈ ns → (∀ a, a ∈ ns → M ≤ a) → Q (.int M t') { s with heap := h', toks := tk }) : wpAny (model prog w) A (call (.builtin "min") [.ref t]) Q E s := by
  obtain ⟨xs, e⟩ := hi.allInts.items
  have hn : numsOf (intItems xs).toList = ns := by rw [← e]; exact hi.numsOf
  rw [nums_intItems] at hn
  subst hn
  rw [e] at hl
  have hsz : 0 < xs.size := by simpa using hne
  have hlt : t < s.heap.objs.size := by obtain ⟨_, e, _⟩ := hl; exact Heap.lt_size e
  refine call_min_walk (wpAny_pyIter_tuple hl ⟨_, _, _, _, _, _, _, rfl, Walks.tuple (A := A.in1) hh _ t (Nat.ne_of_lt hlt) (intItems xs), ⟨⟨_, Heap.get?_push_size _ rfl, rfl, rfl⟩, hl.push _⟩, fun b hb => ?_, by simpa [intItems] using hsz, CmpOf.ints_lt (numAt xs) (fun _ _ => intItems_at), fun v h' tk hP hk => ?_⟩)
  · show b < (s.heap.push _).objs.size
    rw [Heap.size_push]
    rcases List.mem_cons.mp hb with rfl | hb
    · exact Nat.lt_succ_self _
    · rcases List.mem_cons.mp hb with rfl | hb
      · exact Nat.lt_succ_of_lt hlt
      · cases hb
  · have hv : (intItems xs)[argBest (fun i j => decide (numAt xs i < numAt xs j)) (xs.size - 1)]? = some v := by simpa [intItems] using hP
    obtain ⟨t, rfl⟩ := intItems_at hv
    obtain ⟨h1, h2⟩ := argBest_lt (numAt xs) (xs.size - 1)
    refine h h' tk _ t (fun b o eo => hk b o (fun hmem => ?_) (Heap.get?_push_of_some _ eo)) ?_ fun a ha => ?_
    · rcases List.mem_cons.mp hmem with e1 | hmem
      · exact absurd (e1 ▸ Heap.lt_size eo) (Nat.lt_irrefl _)
      · cases hmem
    · rw [numAt_eq]; exact PySem.getD_mem (by rw [List.length_map, Array.length_toList]; omega)
    · obtain ⟨j, hj, rfl⟩ := mem_getD ha
      rw [List.length_map, Array.length_toList] at hj
      rw [← numAt_eq]; exact h2 j (by omega)
theorem fold_min_eq {i m : Int} {is : List Int} (h1 : m ∈ i :: is) (h2 : ∀ y, y ∈ i :: is → m ≤ y) : m = is.foldl min i := by
  obtain ⟨k1, k2⟩ := min_fold is i
  exact Int.le_antisymm (h2 _ k1) (k2 m h1)
theorem fold_max_eq {i m : Int} {is : List Int} (h1 : m ∈ i :: is) (h2 : ∀ y, y ∈ i :: is → y ≤ m) : m = is.foldl max i := by
  obtain ⟨k1, k2⟩ := max_fold is i
  exact Int.le_antisymm (k2 m h1) (h2 _ k1)
theorem isTuple_of {h : Heap} {a : Addr} {its : Array Value} (x : IsTup h a its) : h.IsTuple a its := x
theorem bi_max (hc : X.calm = true) : CallR X (.builtin "max") (rBi X.K .max) := by
  intro pins s σ H xs us Q I r h
  obtain ⟨F, ds, t, hk, hs, ht, hb, q⟩ := h
  match ds, hk, hb with
  | [.int i, .int j], hk, hb =>
    obtain ⟨v, u, rfl, k, k2⟩ := hk.two
    cases (show RP X.K F v (.int i) from k)
    cases (show RP X.K F u (.int j) from k2)
    exact call_max2 hc pins s σ H _ us Q I r ⟨i, j, rfl, q _ _ (by rw [← Option.some.inj hb]; exact .val (.int _))⟩
  | [.lst ds], hk, hb =>
    obtain ⟨v, rfl, a, xs, rfl, k1, k2⟩ := hk.one
    simp only [biD] at hb
    cases e1 : intsOf ds with
    | none => rw [e1] at hb; cases hb
    | some is =>
      rw [e1] at hb
      cases is with
      | nil => cases hb
      | cons i is =>
        have := intsOf_vs e1 k2
        subst this
        exact cr_max hc pins s σ H _ us Q I r ⟨a, i :: is, rfl, SqL.of k1, by simp, fun m h1 h2 => q _ _ (by rw [← Option.some.inj hb, ← fold_max_eq h1 h2]; exact .val (.int _))⟩
  | [.tup ds], hk, hb =>
    obtain ⟨v, rfl, a, xs, rfl, k1, k2⟩ := hk.one
    simp only [biD] at hb
    cases e1 : intsOf ds with
    | none => rw [e1] at hb; cases hb
    | some is =>
      rw [e1] at hb
      cases is with
      | nil => cases hb
      | cons i is =>
        have := intsOf_vs e1 k2
        subst this
        obtain ⟨its, rv, hl, hz⟩ := I.tuple k1.t
        rw [Vals.ref1 r]
        exact max_rawT (I.ok.hd hc) (isTuple_of hl) rv.ints (by simp) fun h' tk m t' hk h1 h2 => ⟨.int _, H, I.kept hk, ⟨_, rfl⟩, q _ _ (by rw [← Option.some.inj hb, ← fold_max_eq h1 h2]; exact .val (.int _))⟩
theorem bi_min (hc : X.calm = true) : CallR X (.builtin "min") (rBi X.K .min) := by
  intro pins s σ H xs us Q I r h
  obtain ⟨F, ds, t, hk, hs, ht, hb, q⟩ := h
  match ds, hk, hb with
  | [.int i, .int j], hk, hb =>
    obtain ⟨v, u, rfl, k, k2⟩ := hk.two
    cases (show RP X.K F v (.int i) from k)
    cases (show RP X.K F u (.int j) from k2)
    exact call_min2 hc pins s σ H _ us Q I r ⟨i, j, rfl, q _ _ (by rw [← Option.some.inj hb]; exact .val (.int _))⟩
  | [.lst ds], hk, hb =>
    obtain ⟨v, rfl, a, xs, rfl, k1, k2⟩ := hk.one
    simp only [biD] at hb
    cases e1 : intsOf ds with
    | none => rw [e1] at hb; cases hb
    | some is =>
      rw [e1] at hb
      cases is with
      | nil => cases hb
      | cons i is =>
        have := intsOf_vs e1 k2
        subst this
        exact cr_min hc pins s σ H _ us Q I r ⟨a, i :: is, rfl, SqL.of k1, by simp, fun m h1 h2 => q _ _ (by rw [← Option.some.inj hb, ← fold_min_eq h1 h2]; exact .val (.int _))⟩
  | [.tup ds], hk, hb =>
    obtain ⟨v, rfl, a, xs, rfl, k1, k2⟩ := hk.one
    simp only [biD] at hb
    cases e1 : intsOf ds with
    | none => rw [e1] at hb; cases hb
    | some is =>
      rw [e1] at hb
      cases is with
      | nil => cases hb
      | cons i is =>
        have := intsOf_vs e1 k2
        subst this
        obtain ⟨its, rv, hl, hz⟩ := I.tuple k1.t
        rw [Vals.ref1 r]
        exact min_rawT (I.ok.hd hc) (isTuple_of hl) rv.ints (by simp) fun h' tk m t' hk h1 h2 => ⟨.int _, H, I.kept hk, ⟨_, rfl⟩, q _ _ (by rw [← Option.some.inj hb, ← fold_min_eq h1 h2]; exact .val (.int _))⟩
end
section
variable {tb : Tb} {w : Wd} {k : Nat} {sc ws : Scope} {X : Cx}
def biFn : Bi → Option String
  | .len => some "len" | .abs => some "abs" | .min => some "min" | .max => some "max" | .sum => some "sum" | .sorted => some "sorted" | .any => some "any" | .all => some "all" | .isi => some "isinstance" | _ => none
def biTy : Bi → Option String
  | .tuple => some "tuple" | .list => some "list" | .int => some "int" | _ => none
theorem cr_bi {b : Bi} {n : String} (g : Gd tb w k sc ws X) (h : biFn b = some n) : CallR X (.builtin n) (rBi X.K b) := by
  cases b <;> simp [biFn] at h <;> subst h
  · exact bi_len
  · exact bi_abs
  · exact bi_min g.calm
  · exact bi_max g.calm
  · exact bi_sum g.calm
  · exact bi_sorted
  · exact bi_any g.calm
  · exact bi_all g.calm
  · exact bi_isi
theorem cr_bt {b : Bi} {n : String} (g : Gd tb w k sc ws X) (h : biTy b = some n) : CallR X (.type n) (rBi X.K b) := by
  cases b <;> simp [biTy] at h <;> subst h
  · exact bi_tuple
  · exact bi_list
  · exact bi_int
theorem boot_fn {b : Bi} {n : String} (h : biFn b = some n) : bootBuiltins (Str.ofString n) = some (.builtin n) ∧ Str.ofString n ≠ "__name__" ∧ (Str.ofString n == ("__debug__" : Str)) = false ∧ n ∈ blts := by
  cases b <;> simp [biFn] at h <;> subst h <;> exact ⟨by first | decide +kernel | rfl | kernel_rfl, by decide, by decide, by decide⟩
theorem boot_ty {b : Bi} {n : String} (h : biTy b = some n) : bootBuiltins (Str.ofString n) = some (.type n) ∧ Str.ofString n ≠ "__name__" ∧ (Str.ofString n == ("__debug__" : Str)) = false ∧ n ∈ blts := by
  cases b <;> simp [biTy] at h <;> subst h <;> exact ⟨by first | decide +kernel | rfl | kernel_rfl, by decide, by decide, by decide⟩
theorem pe_biF {b : Bi} {es : Es} {x : Str} {y : Expr} {ys : List Expr} {p pos : Pos} {n : String} (g : Gd tb w k sc ws X) (hb : biFn b = some n) (hx : x = Str.ofString n) (hg : gloB sc x = true) (hn : noStars (y :: ys) = true) (hs : PA X (y :: ys) (tEs w es)) : PE X (.Call (.Name x p) (y :: ys) [] pos) (tE w (.bi b es)) := by
  subst hx
  obtain ⟨q1, q2, q3, q4⟩ := boot_fn hb
  simp only [noStars, Bool.and_eq_true, Bool.not_eq_true'] at hn
  refine (pe_callB (cr_bi g hb) (glo_of g hg) (g.blt n q4) q1 hs q2 q3 (star_of hn.1) (noStars_each hn.2)).imp' fun σ H Q h => ?_
  rw [g.K]; exact tBi_run h
theorem pe_biT {b : Bi} {es : Es} {x : Str} {y : Expr} {ys : List Expr} {p pos : Pos} {n : String} (g : Gd tb w k sc ws X) (hb : biTy b = some n) (hx : x = Str.ofString n) (hg : gloB sc x = true) (hn : noStars (y :: ys) = true) (hs : PA X (y :: ys) (tEs w es)) : PE X (.Call (.Name x p) (y :: ys) [] pos) (tE w (.bi b es)) := by
  subst hx
  obtain ⟨q1, q2, q3, q4⟩ := boot_ty hb
  simp only [noStars, Bool.and_eq_true, Bool.not_eq_true'] at hn
  refine (pe_callTy (cr_bt g hb) (glo_of g hg) (g.blt n q4) q1 hs q2 q3 (star_of hn.1) (noStars_each hn.2)).imp' fun σ H Q h => ?_
  rw [g.K]; exact tBi_run h
end
end Fx

set_option Elab.async false
set_option linter.all false
set_option maxRecDepth 100000
/-! Fx: set(..) of a tuple of tuples. -/
namespace Fx
open PySem PySem.Spec PyProof.Rows L2
section
variable {P : Program} {w : World} {A : Around} {E : Value → Shared → Prop} {s : Shared}
set_option maxHeartbeats 3200000 in
theorem set_of_tup {l : Addr} {items : Array Value} (kz : List (Addr × List Int)) {Q : Value → Shared → Prop} (zHh : A.handled = none) (zHl : s.heap.IsTuple l items) (zHit : items.toList = kz.map fun p => Value.ref p.1)
    (zHk : ∀ p ∈ kz, IsT P w s.heap p.2 p.1) (zFew : kz.length < 64) (zHu : A.units + 3 < cLine)
    (h : ∀ (hx' : Heap) (tz : Nat) L es ep t, SetTR P w hx' s.heap.objs.size L es ep t → Got kz kz.length L → (∀ b o, s.heap.get? b = some o → hx'.get? b = some o) → Q (.ref s.heap.objs.size) { s with heap := hx', toks := tz }) :
    wpAny (model P w) A (call (.type "set") [.ref l]) Q E s := by
  have zSz : items.size = kz.length := by
    have q := congrArg List.length zHit
    rw [Array.length_toList, List.length_map] at q
    exact q
  obtain ⟨c, tl, zMr⟩ := F.called_set.mro
  have zMd := F.called_set.made
  have zSb := F.called_set.sub
  refine wpAny_call (codeAny_of_tree ?_)
  show wpAny _ _ (callAny (.type "set") _) _ _ _
  refine wpAny_pure ⟨Code.quiet_builtin _ (by decide +kernel), codeAny_builtin F.entry_type_call ?_⟩
  rw [Around.under_plain (weight_type_call_type "set" [.ref l] []) rfl]
  have z1 := F.called_set.notType
  have z2 := F.called_set.canCreate
  have zCt := F.typeCall_set_1 (.ref l)
  repeat (any_goals (first | assumption | wp_step))

  refine codeAny_mono (code_set_led1 (.ref l) (E := E) (Q₁ := fun ob1 sz1 => ob1 = .ref s.heap.objs.size ∧ sz1 = { s with heap := s.heap.push { cls := .type "set", dict := none, data := .set #[] 0 (.fresh 0 0 (!w.params.followText "set-order")) } }) ⟨rfl, rfl⟩) fun r sz1 hr => ?_
  cases r with
  | error e => exact hr
  | ok fl =>
    cases fl with
    | ret ob1 =>
      obtain ⟨rfl, rfl⟩ := hr
      have zS : (s.heap.push { cls := .type "set", dict := none, data := .set #[] 0 (.fresh 0 0 (!w.params.followText "set-order")) }).get? s.heap.objs.size = some { cls := .type "set", dict := none, data := .set #[] 0 (.fresh 0 0 (!w.params.followText "set-order")) } := Heap.get?_push_size _ rfl
      have zT : Shared.TypeIs { s with heap := s.heap.push { cls := .type "set", dict := none, data := .set #[] 0 (.fresh 0 0 (!w.params.followText "set-order")) } } (.ref s.heap.objs.size) "set" := ⟨_, zS, rfl⟩
      have zLi := F.called_set.init.lookup
      have zBi := F.called_set.init.bind (.ref s.heap.objs.size)
      repeat (any_goals (first | assumption | wp_step))

      refine codeAny_mono (codeAny_call_builtin (R := wants (fun r ss2 => r = .none ∧ ∃ hx' tz L es ep t, ss2 = { s with heap := hx', toks := tz } ∧ SetTR P w hx' s.heap.objs.size L es ep t ∧ Got kz kz.length L ∧
          (∀ b o, s.heap.get? b = some o → hx'.get? b = some o)) E) F.called_set.init.plain F.entry_set_init (check_set_init_1 zT ?_)) fun rr2 ss2 hrr2 => ?_
      · obtain ⟨ol, zOl, zCl, nl, zDl⟩ := zHl
        obtain ⟨ocls, odict, odata, oslots⟩ := ol
        simp only at zCl zDl
        subst zCl; subst zDl
        have zOl' : (s.heap.push { cls := .type "set", dict := none, data := .set #[] 0 (.fresh 0 0 (!w.params.followText "set-order")) }).get? l = some { cls := .type "tuple", dict := odict, data := .seq items nl, slots := oslots } := Heap.get?_push_of_some _ zOl
        have zL1 := F.sub_tuple_set
        have zL2 := F.sub_tuple_frozenset
        have zNe : (Value.type "tuple" == Value.type "dict") = false := by decide
        have zH1 : (s.heap.push { cls := .type "set", dict := none, data := .set #[] 0 (.fresh 0 0 (!w.params.followText "set-order")) }).IsTuple l items := ⟨_, zOl', rfl, nl, rfl⟩
        unfold Builtin.«set.__init__» noKeywords Builtin.Frozenset.updateFrom
        generalize zPi : pyIter = zIt
        wp_walk
        subst zPi

        refine wpAny_pyIter_tuple zH1 ?_
        refine wpAny_bind (wpAny_runValue ?_)
        have zLs : l < s.heap.objs.size := Heap.lt_size zOl
        have zH3 : A.in1.in1.in1.handled = none := by simp [zHh]
        have zZ1 : (s.heap.push { cls := .type "set", dict := none, data := .set #[] 0 (.fresh 0 0 (!w.params.followText "set-order")) }).objs.size = s.heap.objs.size + 1 := Heap.size_push ..
        have zNi : l ≠ (s.heap.push { cls := .type "set", dict := none, data := .set #[] 0 (.fresh 0 0 (!w.params.followText "set-order")) }).objs.size := by
          rw [Heap.size_push]; exact Nat.ne_of_lt (Nat.lt_succ_of_lt zLs)
        have zSf : s.heap.objs.size ∉ [(s.heap.push { cls := .type "set", dict := none, data := .set #[] 0 (.fresh 0 0 (!w.params.followText "set-order")) }).objs.size, l] := by
          rw [Heap.size_push]; simp only [List.mem_cons, List.mem_singleton, List.not_mem_nil, or_false, not_or]
          exact ⟨Nat.ne_of_lt (Nat.lt_succ_self _), Nat.ne_of_gt zLs⟩
        have zVl : ∀ (i : Nat) (v : Value), items[i]? = some v → ∃ p, kz[i]? = some p ∧ v = .ref p.1 := fun i v hv => by
          have q : items.toList[i]? = some v := by rw [Array.getElem?_toList]; exact hv
          rw [zHit, List.getElem?_map] at q
          cases hq : kz[i]? with
          | none => rw [hq] at q; cases q
          | some p =>
            rw [hq] at q
            exact ⟨p, rfl, (Option.some.inj q).symm⟩
        have zNone : ∀ b, s.heap.objs.size ≤ b → s.heap.get? b = none := fun b hb => by
          cases q : s.heap.get? b with
          | none => rfl
          | some o => exact absurd (Nat.lt_of_lt_of_le (Heap.lt_size q) hb) (Nat.lt_irrefl _)
        refine set_update_tups ((Walks.tuple zH3 _ l zNi items).toS) s.heap.objs.size
          zSf kz zSz zFew zVl s.heap zHk (zNone _ (Nat.le_refl _)) (fun b hb => zNone b (by
            rw [List.mem_singleton.mp hb, Heap.size_push]
            exact Nat.le_succ _)) zHu (items.size - 0) 0 _ (by omega) (Nat.zero_le _)
          ⟨⟨_, Heap.get?_push_size _ rfl, rfl, rfl⟩, (zH1.push _)⟩ (fun b o e => Heap.get?_push_of_some _ (Heap.get?_push_of_some _ e)) ?hS0 ?hR
        case hS0 =>
          have zGt : ((s.heap.push { cls := .type "set", dict := none, data := .set #[] 0 (.fresh 0 0 (!w.params.followText "set-order")) }).push { cls := .type "tuple_iterator", data := .fields #[.ref l, .int 0 0] }).get? s.heap.objs.size
              = some { cls := .type "set", dict := none, data := .set #[] 0 (.fresh 0 0 (!w.params.followText "set-order")) } := Heap.get?_push_of_some _ zS
          exact ⟨[], #[], 0, _, setTR_fresh zGt, Got.zero kz⟩
        case hR =>
          intro s' L es ep t hm zS' zg' zkp
          obtain ⟨hx', g2, d', tk', os'⟩ := s'
          have eg : g2 = s.gens := hm.gens
          have ed : d' = s.drawn := hm.drawn
          have eo : os' = s.os := hm.os
          subst eg; subst ed; subst eo
          show wpAny _ _ _ _ _ _
          refine wpAny_pure ?_
          show wpAny _ _ (ret Value.none) _ _ _
          rw [zSz] at zg'
          exact wpAny_pure ⟨rfl, hx', tk', L, es, ep, t, rfl, zS', zg', zkp⟩

      · cases rr2 with
        | error e => exact hrr2
        | ok ffl2 =>
          cases ffl2 with
          | ret r =>
            obtain ⟨rfl, hx', tz, L, es, ep, t, rfl, zS', zg', zk'⟩ := hrr2
            repeat (any_goals (first | assumption | wp_step))
            exact h _ _ _ _ _ _ zS' zg' zk'
          | _ => exact hrr2.elim
    | _ => exact hr.elim

end
/-- the set of a list or of a tuple -/
def rSetTT (K : PySem.W.Frag) (P : Program) (w : World) : List V → Hp → VK → Prop := fun xs H Q => rSetOfT K P w xs H Q ∨ ∃ (l : Addr) (kz : List (Addr × List Int)), xs = [V.ref l] ∧ SqT K H l (kz.map fun p => V.ref p.1) ∧ (∀ p ∈ kz, SqT K H p.1 (p.2.map V.int)) ∧ kz.length < 64 ∧
  ∀ a L, H a = none → (∀ p ∈ L, p ∈ kz) → (∀ p ∈ kz, p.2 ∈ L.map (·.2)) → Q (.ref a) (upd H a (SetTO P w a L))
theorem cr_setTT {X : Cx} (hc : X.calm = true) (hu : X.A.units + 64 < cLine) : CallR X (.type "set") (rSetTT X.K X.prog X.w) := by
  intro pins s σ H xs us Q I r h
  rcases h with h | ⟨l, kz, rfl, hl, hk, hf, q⟩
  · exact cr_setOfT hc hu pins s σ H xs us Q I r h
  · rw [Vals.ref1 r]
    obtain ⟨its, rv, pl, hz⟩ := I.tuple hl
    have hn : H s.heap.objs.size = none := I.hok.fresh (Nat.le_refl _)
    refine set_of_tup (P := X.prog) (w := X.w) kz (I.ok.hd hc) pl (by simpa using refs_of_vals rv) (fun p hp => I.isT (hk p hp)) hf (by omega) fun hx tk L es ep t R g k => ?_
    refine ⟨.ref s.heap.objs.size, upd H s.heap.objs.size (SetTO X.prog X.w s.heap.objs.size L), I.laid (t' := tk) k (Nat.le_refl _) (setTO_new R.t0), rfl, q _ L hn (fun p hp => ?_) fun p hp => ?_⟩
    · exact List.mem_of_mem_take (g.sub p hp)
    · have := g.all p; rw [List.take_length] at this; exact this hp
end Fx

set_option Elab.async false
set_option linter.all false
set_option maxRecDepth 100000
/-! Fx: sorted(set(..)) of a list of tuples of whole numbers. -/
namespace Fx
open PySem PySem.Spec PyProof.Rows L2
theorem code_ltL {B : Int} : ∀ {x y : List Int}, x.length = y.length → TS.Bd B x → TS.Bd B y → ltL x y = true → TS.code B x < TS.code B y
  | [], [], _, _, _, h => by simp [ltL] at h
  | [], _ :: _, h, _, _, _ => by simp at h
  | _ :: _, [], h, _, _, _ => by simp at h
  | a :: as, b :: bs, h, hx, hy, hl => by
    have h' : as.length = bs.length := by simpa using h
    simp only [ltL] at hl
    by_cases e : a = b
    · subst e
      simp only [if_true] at hl
      exact (TS.code_same h').mpr (code_ltL h' hx.tail hy.tail hl)
    · rw [if_neg e] at hl
      exact TS.code_lt h' hx.tail hy.tail (by simpa using hl)
theorem le_code {B : Int} {x y : List Int} (h : x.length = y.length) (hx : TS.Bd B x) (hy : TS.Bd B y) (hc : TS.code B x ≤ TS.code B y) : ltL y x = false := by
  cases e : ltL y x with
  | false => rfl
  | true => have := code_ltL h.symm hy hx e; omega
theorem bd_ex : ∀ is : List Int, (∀ i ∈ is, 0 ≤ i) → ∃ B : Int, 0 ≤ B ∧ TS.Bd B is
  | [], _ => ⟨0, Int.le_refl _, fun m hm => by simp at hm⟩
  | i :: is, h => by
    obtain ⟨B, b0, hb⟩ := bd_ex is fun j hj => h j (List.mem_cons_of_mem _ hj)
    have hi := h i List.mem_cons_self
    refine ⟨B + i + 1, by omega, fun m hm => ?_⟩
    rcases List.mem_cons.mp hm with e | hm
    · subst e; omega
    · have := hb m hm; omega
theorem bds_ex : ∀ iss : List (List Int), (∀ is ∈ iss, ∀ i ∈ is, 0 ≤ i) → ∃ B : Int, ∀ is ∈ iss, TS.Bd B is
  | iss, h => by
    obtain ⟨B, _, hb⟩ := bd_ex iss.flatten fun i hi => by
      obtain ⟨is, h1, h2⟩ := List.mem_flatten.mp hi
      exact h is h1 i h2
    exact ⟨B, fun is hm i hi => hb i (List.mem_flatten.mpr ⟨is, hm, hi⟩)⟩
theorem mem_firstsL {x : List Int} : ∀ {l : List (List Int)}, x ∈ firstsL l ↔ x ∈ l
  | [] => by simp [firstsL]
  | y :: ys => by
    simp only [firstsL]
    split
    · rename_i c
      have c' : y ∈ firstsL ys := by simpa using c
      rw [mem_firstsL (l := ys)] at *
      constructor
      · exact fun h => List.mem_cons_of_mem _ h
      · intro h
        rcases List.mem_cons.mp h with e | h
        · subst e; exact c'
        · exact h
    · rw [List.mem_cons, List.mem_cons, mem_firstsL (l := ys)]
theorem nodup_firstsL : ∀ l : List (List Int), (firstsL l).Nodup
  | [] => .nil
  | y :: ys => by
    simp only [firstsL]
    split
    · exact nodup_firstsL ys
    · rename_i c
      exact List.nodup_cons.mpr ⟨by simpa using c, nodup_firstsL ys⟩
theorem perm_nodup {l m : List (List Int)} (h1 : l.Nodup) (h2 : m.Nodup) (h : ∀ x, x ∈ l ↔ x ∈ m) : l.Perm m := by
  rw [List.perm_iff_count]
  intro x
  have c1 : ∀ {l : List (List Int)}, l.Nodup → l.count x = if x ∈ l then 1 else 0 := fun {l} hn => by
    by_cases e : x ∈ l
    · rw [if_pos e]
      have q1 := List.count_pos_iff.mpr e
      have q2 := (List.nodup_iff_count).mp hn x
      omega
    · rw [if_neg e]; exact List.count_eq_zero.mpr e
  rw [c1 h1, c1 h2]
  simp only [h x]
section
variable {K : PySem.W.Frag} {F H : Hp}
theorem tups_ks : ∀ {es : List D} {iss : List (List Int)} {xs : List V}, tupsOf es = some iss → RPs K F xs es → ∃ ks : List (Addr × List Int), xs = (ks.map fun p => V.ref p.1) ∧ ks.map (·.2) = iss ∧ ∀ p ∈ ks, SqU K F p.1 (p.2.map V.int) ∧ p.2 ≠ []
  | [], iss, xs, h, r => by
    simp [tupsOf] at h; subst h
    cases r
    exact ⟨[], rfl, rfl, fun p hp => by simp at hp⟩
  | .tup ts :: es, iss, xs, h, r => by
    simp only [tupsOf] at h
    cases e1 : intsOf ts with
    | none => rw [e1] at h; simp at h
    | some is =>
      cases is with
      | nil => rw [e1] at h; simp at h
      | cons n ns =>
        cases e2 : tupsOf es with
        | none => rw [e1, e2] at h; simp at h
        | some iss' =>
          rw [e1, e2] at h
          simp at h; subst h
          cases r with
          | cons r1 r2 =>
            obtain ⟨ks, q1, q2, q3⟩ := tups_ks e2 r2
            cases r1 with
            | @tup b ys _ k1 k2 =>
              have ey := intsOf_vs e1 k2
              subst ey
              refine ⟨(b, n :: ns) :: ks, by rw [q1]; rfl, by rw [← q2]; rfl, fun p hp => ?_⟩
              rcases List.mem_cons.mp hp with e | hp
              · subst e; exact ⟨k1, by simp⟩
              · exact q3 p hp
  | .non :: _, _, _, h, _ => by simp [tupsOf] at h
  | .bl _ :: _, _, _, h, _ => by simp [tupsOf] at h
  | .int _ :: _, _, _, h, _ => by simp [tupsOf] at h
  | .str _ :: _, _, _, h, _ => by simp [tupsOf] at h
  | .lst _ :: _, _, _, h, _ => by simp [tupsOf] at h
  | .rol _ :: _, _, _, h, _ => by simp [tupsOf] at h
  | .dic _ :: _, _, _, h, _ => by simp [tupsOf] at h
  | .set _ :: _, _, _, h, _ => by simp [tupsOf] at h
  | .ty _ :: _, _, _, h, _ => by simp [tupsOf] at h
theorem ks_rps : ∀ {L : List (Addr × List Int)}, (∀ p ∈ L, SqU K F p.1 (p.2.map V.int)) → RPs K F (L.map fun p => V.ref p.1) ((L.map (·.2)).map tI)
  | [], _ => .nil
  | p :: L, h => .cons (.tup (h p List.mem_cons_self) (rps_ints _)) (ks_rps fun q hq => h q (List.mem_cons_of_mem _ hq))
theorem sortset_core {P : Program} {w : World} {Q : VK} {H F : Hp} {es : List D} {t : T} {xs : List V} (hs : Same F H) (k2 : RPs K F xs es) (hb : (match sortsetD es with | some es => some (ol es) | none => none) = some t) (q : ∀ v H', NR K F H t v H' → Q v H') :
    ∃ kz : List (Addr × List Int), xs = kz.map (fun p => V.ref p.1) ∧ (∀ p ∈ kz, SqT K H p.1 (p.2.map V.int)) ∧ kz.length < 64 ∧ ∀ b L, H b = none → (∀ p ∈ L, p ∈ kz) → (∀ p ∈ kz, p.2 ∈ L.map (·.2)) → rSortedT K P w [.ref b] (upd H b (SetTO P w b L)) Q := by
  cases e1 : sortsetD es with
  | none => rw [e1] at hb; cases hb
  | some rs =>
    rw [e1] at hb
    simp only [Option.some.injEq] at hb
    subst hb
    unfold sortsetD at e1
    cases e2 : tupsOf es with
    | none => rw [e2] at e1; cases e1
    | some iss =>
      rw [e2] at e1
      simp only at e1
      split at e1
      · rename_i c
        simp only [Option.some.injEq] at e1
        subst e1
        simp only [Bool.and_eq_true, decide_eq_true_eq] at c
        obtain ⟨c1, c2⟩ := c
        simp only [evenL, List.all_eq_true, Bool.and_eq_true, decide_eq_true_eq] at c1
        obtain ⟨ks, rfl, rfl, hks⟩ := tups_ks e2 k2
        rw [List.length_map] at c2
        refine ⟨ks, rfl, fun p hp => ((hks p hp).1.mn hs).t, c2, fun b L hfr hL hL2 => ?_⟩
        obtain ⟨B, hB⟩ := bds_ex (ks.map (·.2)) fun is hm i hi => (c1 is hm).2 i hi
        have mL : ∀ p ∈ L, p.2 ∈ ks.map (·.2) := fun p hp => List.mem_map_of_mem (hL p hp)
        have ne : ∀ p ∈ ks, p.1 ≠ b ∨ True := fun _ _ => .inr trivial
        have sH : Same H (upd H b (SetTO P w b L)) := fun x o e => by rw [upd_ne (ne_of_none e hfr)]; exact e
        cases hks0 : ks with
        | nil =>
          subst hks0
          have hL0 : L = [] := List.eq_nil_iff_forall_not_mem.mpr fun p hp => by have := hL p hp; simp at this
          subst hL0
          refine ⟨b, [], 1, 1, rfl, upd_same, fun p hp => by simp at hp, Nat.le_refl _, fun p hp => by simp at hp, fun L' p pm _ _ _ hp => ?_⟩
          cases pm.eq_nil
          exact q _ _ (.jnk hfr (fun ys z => by cases z) hp .nil)
        | cons p0 ks' =>
          have h0 : p0 ∈ ks := by rw [hks0]; exact List.mem_cons_self
          have hd : ((ks.map (·.2)).headD []).length = p0.2.length := by rw [hks0]; rfl
          refine ⟨b, L, p0.2.length, B, rfl, upd_same, fun p hp => (((hks p (hL p hp)).1.mn hs).mn sH).t, ?_, fun p hp => ⟨by rw [(c1 p.2 (mL p hp)).1, hd], hB _ (mL p hp)⟩, fun L' p pm nd lt pw hp => ?_⟩
          · have := (hks p0 h0).2
            cases e : p0.2 with
            | nil => exact absurd e this
            | cons _ _ => simp
          · have mL' : ∀ q ∈ L', q.2 ∈ ks.map (·.2) := fun q hq => mL q (pm.mem_iff.mp hq)
            have eo : L'.map (·.2) = sortL (firstsL (ks.map (·.2))) := by
              refine srtL_uniq ?_ (sortL_srt _) ((perm_nodup nd (nodup_firstsL _) fun x => ?_).trans (sortL_perm _).symm)
              · refine List.pairwise_map.mpr (pw.imp_of_mem fun {q r} hq hr hc => le_code ?_ (hB _ (mL' q hq)) (hB _ (mL' r hr)) hc)
                rw [(c1 _ (mL' q hq)).1, (c1 _ (mL' r hr)).1]
              · rw [mem_firstsL]
                constructor
                · intro hx
                  obtain ⟨q, hq, rfl⟩ := List.mem_map.mp hx
                  exact mL' q hq
                · intro hx
                  obtain ⟨q, hq, rfl⟩ := List.mem_map.mp hx
                  obtain ⟨r, hr, er⟩ := List.mem_map.mp (hL2 q hq)
                  exact List.mem_map.mpr ⟨r, pm.mem_iff.mpr hr, er⟩
            have rp := ks_rps (K := K) (F := F) (L := L') fun r hr => (hks r (hL r (pm.mem_iff.mp hr))).1
            rw [eo] at rp
            exact q _ _ (.jnk hfr (fun ys z => by cases z) hp rp)
      · cases e1

theorem sortset_conv {P : Program} {w : World} {vs : List V} {Q : VK} (h : rBi K .sortset vs H Q) : rSetTT K P w vs H fun v1 H1 => rSortedT K P w [v1] H1 Q := by
  obtain ⟨F, ds, t, hk, hs, ht, hb, q⟩ := h
  match ds, hk, hb with
  | [.lst es], hk, hb =>
    obtain ⟨v, rfl, a, xs, rfl, k1, k2⟩ := hk.one
    obtain ⟨kz, rfl, z1, z2, z3⟩ := sortset_core (P := P) (w := w) hs k2 hb q
    exact .inl ⟨a, kz, rfl, SqL.of k1, z1, z2, z3⟩
  | [.tup es], hk, hb =>
    obtain ⟨v, rfl, a, xs, rfl, k1, k2⟩ := hk.one
    obtain ⟨kz, rfl, z1, z2, z3⟩ := sortset_core (P := P) (w := w) hs k2 hb q
    exact .inr ⟨a, kz, rfl, k1.t, z1, z2, z3⟩
end
section
variable {tb : Tb} {w : Wd} {k : Nat} {sc ws : Scope} {X : Cx}
theorem pe_sortset {es : Es} {x x2 : Str} {y : Expr} {p p2 pos pos2 : Pos} (g : Gd tb w k sc ws X) (hx : x = Str.ofString "sorted") (hx2 : x2 = Str.ofString "set") (hg : gloB sc x = true) (hg2 : gloB sc x2 = true) (hn : noStars [y] = true) (hs : PA X [y] (tEs w es)) :
    PE X (.Call (.Name x p) [.Call (.Name x2 p2) [y] [] pos2] [] pos) (tE w (.bi .sortset es)) := by
  subst hx hx2
  have hu := g.hu
  simp only [noStars, Bool.and_eq_true, Bool.not_eq_true'] at hn
  have hset := pe_callTy (p := p2) (pos := pos2) (cr_setTT g.calm (by omega)) (glo_of g hg2) (g.blt "set" (by decide)) (by first | decide +kernel | rfl | kernel_rfl) hs (by decide) (by decide) (star_of hn.1) (noStars_each (xs := []) rfl)
  refine (pe_callB (p := p) (pos := pos) (cr_sortedT g.calm) (glo_of g hg) (g.blt "sorted" (by decide)) (by first | decide +kernel | rfl | kernel_rfl) (pa_cons hset pa_nil) (by decide) (by decide)).imp' fun σ H Q h => ?_
  obtain ⟨G, L, P, e, F, R, h⟩ := h
  simp only [ev] at h
  rw [g.K]
  exact ⟨G, L, P, e, F, R, Po.bnd h fun rs e1 vs F1 H1 _ R1 s1 p1 h1 => sortset_conv (biR_run R1 h1)⟩
end
end Fx

set_option Elab.async false
set_option linter.all false
set_option maxRecDepth 100000
/-! Fx: what is locked stays as it is. -/
namespace Fx
/-- locked slots stay; the frame's length -/
def KL (e e' : Env) : Prop := e'.length = e.length ∧ ∀ (i : Nat) (t : T), e[i]? = some (Sl.lk t) → e'[i]? = some (Sl.lk t)
def KLo (own : List Nat) (e e' : Env) : Prop := e'.length = e.length ∧ ∀ (i : Nat) (t : T), i ∉ own → e[i]? = some (Sl.lk t) → e'[i]? = some (Sl.lk t)
section
variable {C : Cf} {e e' e1 e2 : Env} {own : List Nat}
theorem KL.refl : KL e e := ⟨rfl, fun _ _ h => h⟩
theorem KL.trans (a : KL e e1) (b : KL e1 e2) : KL e e2 := ⟨b.1.trans a.1, fun i t h => b.2 i t (a.2 i t h)⟩
theorem KL.o (a : KL e e1) : KLo own e e1 := ⟨a.1, fun i t _ h => a.2 i t h⟩
theorem KLo.refl : KLo own e e := KL.refl.o
theorem KLo.trans (a : KLo own e e1) (b : KLo own e1 e2) : KLo own e e2 := ⟨b.1.trans a.1, fun i t n h => b.2 i t n (a.2 i t n h)⟩
theorem KL.set {i : Nat} {s s' : Sl} (h : e[i]? = some s) (hs : ∀ t, s ≠ .lk t) : KL e (e.set i s') := ⟨by simp, fun j t hj => by
  by_cases hji : j = i
  · subst hji; rw [h] at hj; cases hj; exact absurd rfl (hs t)
  · rw [List.getElem?_set_ne (Ne.symm hji)]; exact hj⟩
theorem KL.setIs {i : Nat} {t : T} {s' : Sl} (h : e[i]? = some (.is t)) : KL e (e.set i s') := KL.set h fun _ z => nomatch z
def LP {α : Type} (e : Env) (o : Out α) : Prop := match o with
  | .ok _ e' => KL e e'
  | .exc _ _ e' => KL e e'
  | .bad => True
theorem LP.ok {α : Type} {a : α} (h : KL e e') : LP e (.ok a e') := h
theorem LP.bad {α : Type} : LP e (.bad : Out α) := trivial
theorem LP.pre {α : Type} {o : Out α} (h : KL e e1) (k : LP e1 o) : LP e o := by
  cases o with
  | ok a e' => exact h.trans k
  | exc c fs e' => exact h.trans k
  | bad => trivial
theorem LP.bnd {α β : Type} {o : Out α} {f : α → Env → Out β} (h : LP e o) (k : ∀ a e', LP e' (f a e')) : LP e (o.bnd f) := by
  cases o with
  | ok a e' => exact LP.pre h (k a e')
  | exc c fs e' => exact h
  | bad => trivial
theorem kl_mv {r : R} {t : T} (h : mv r e = some (t, e')) : KL e e' := by
  cases r with
  | t x => simp [mv] at h; rw [← h.2]; exact KL.refl
  | p i ks =>
    simp only [mv] at h
    split at h
    · rename_i t0 es
      split at h
      · simp at h; rw [← h.2]; exact KL.refl
      · split at h
        · simp at h; rw [← h.2]; exact KL.setIs es
        · cases h
      · cases h
    · split at h
      · simp at h; rw [← h.2]; exact KL.refl
      · cases h
    · cases h
theorem kl_mvs : ∀ {rs : List R} {ts : List T} {e e' : Env}, mvs rs e = some (ts, e') → KL e e'
  | [], ts, e, e', h => by simp [mvs] at h; rw [← h.2]; exact KL.refl
  | r :: rs, ts, e, e', h => by
    simp only [mvs] at h
    split at h
    · rename_i h1
      split at h
      · rename_i h2
        simp at h; rw [← h.2]
        exact (kl_mv h1).trans (kl_mvs h2)
      · cases h
    · cases h
theorem kl_mvF {r : R} {d : D} (h : mvF r e = some (d, e')) : KL e e' := by
  unfold mvF at h
  split at h
  · rename_i h1; simp at h; rw [← h.2]; exact kl_mv h1
  · cases h
theorem kl_mvFs : ∀ {rs : List R} {ds : List D} {e e' : Env}, mvFs rs e = some (ds, e') → KL e e'
  | [], ts, e, e', h => by simp [mvFs] at h; rw [← h.2]; exact KL.refl
  | r :: rs, ts, e, e', h => by
    simp only [mvFs] at h
    split at h
    · rename_i h1
      split at h
      · rename_i h2
        simp at h; rw [← h.2]
        exact (kl_mvF h1).trans (kl_mvFs h2)
      · cases h
    · cases h
theorem kl_kidsR {r : R} (h : kidsR r e = some e') : KL e e' := by
  cases r with
  | t x => simp [kidsR] at h; rw [← h]; exact KL.refl
  | p i ks =>
    simp only [kidsR] at h
    split at h
    · rename_i t0 es
      split at h
      · split at h
        · simp at h; rw [← h]; exact KL.setIs es
        · cases h
      · cases h
    · split at h
      · split at h
        · simp at h; rw [← h]; exact KL.refl
        · cases h
      · simp at h; rw [← h]; exact KL.refl
      · cases h
    · cases h
theorem kl_kidsRs : ∀ {rs : List R} {e e' : Env}, kidsRs rs e = some e' → KL e e'
  | [], e, e', h => by simp [kidsRs] at h; rw [← h]; exact KL.refl
  | r :: rs, e, e', h => by
    simp only [kidsRs] at h
    split at h
    · rename_i h1; exact (kl_kidsR h1).trans (kl_kidsRs h)
    · cases h
theorem LP.stl {o : Out R} (h : LP e o) : LP e o.stl := by
  cases o with
  | ok r e1 =>
    simp only [Out.stl]
    split
    · rename_i r' e2 h2
      refine KL.trans h ?_
      unfold settle at h2
      split at h2
      · split at h2
        · rename_i h3; simp at h2; rw [← h2.2]; exact kl_mv h3
        · cases h2
      · simp at h2; rw [← h2.2]; exact KL.refl
    · trivial
  | exc c fs e1 => exact h
  | bad => trivial
theorem lp_callF {fn : Fn} {rs : List R} : LP e (callF fn rs e) := by
  unfold callF
  split
  · split
    · trivial
    · split
      · trivial
      · split
        · exact KL.refl
        · split
          · rename_i h; exact kl_mvFs h
          · trivial
      · split
        · rename_i h; exact kl_mvFs h
        · trivial
  · split
    · split
      · trivial
      · rename_i h
        split
        · rename_i es
          split
          · exact (kl_mvFs h).trans (KL.setIs es)
          · exact (kl_mvFs h).trans (KL.setIs es)
          · trivial
        · trivial
    · trivial
  · trivial
theorem lp_biR {b : Bi} {rs : List R} : LP e (biR b rs e) := by
  unfold biR
  split
  · trivial
  · split
    · trivial
    · split
      · exact KL.refl
      · split
        · rename_i h; exact kl_kidsRs h
        · trivial
theorem lp_binR {o : PySem.Operator} {l r : R} : LP e (binR o l r e) := by
  unfold binR
  split
  · split
    · trivial
    · split
      · exact KL.refl
      · split
        · rename_i h; exact kl_kidsRs h
        · trivial
  · trivial
theorem lp_cmpR {o : PySem.CmpOp} {l r : R} : LP e (cmpR o l r e) := by
  unfold cmpR
  split
  · split
    · exact KL.refl
    · trivial
  · trivial
theorem lp_mtR {m : Mt} {o : R} {rs : List R} : LP e (mtR m o rs e) := by
  unfold mtR
  split
  · split
    · trivial
    · rename_i h
      split
      · rename_i es
        split
        · split
          · split
            · exact (kl_mvs h).trans (KL.setIs es)
            · trivial
          · trivial
        · trivial
      · trivial
  · trivial
/-- the locks that lockR sets -/
theorem lockR_holds {r : R} : (∀ p ∈ (lockR r e).1, (lockR r e).2[p.1]? = some (.lk p.2) ∧ e[p.1]? = some (.is p.2)) ∧ KL e (lockR r e).2 := by
  unfold lockR
  split
  · rename_i i k ks
    split
    · rename_i t es
      refine ⟨fun p hp => ?_, KL.setIs es⟩
      simp at hp; subst hp
      have hlt : i < e.length := (List.getElem?_eq_some_iff.mp es).1
      exact ⟨List.getElem?_set_self hlt, es⟩
    · exact ⟨fun p hp => by simp at hp, KL.refl⟩
  · exact ⟨fun p hp => by simp at hp, KL.refl⟩
theorem unlock_len : ∀ (ls : List (Nat × T)) (e : Env), (unlock ls e).length = e.length
  | [], _ => rfl
  | (i, t) :: ls, e => by simp [unlock, unlock_len ls]
theorem unlock_ne : ∀ (ls : List (Nat × T)) (e : Env) (j : Nat), (∀ p ∈ ls, p.1 ≠ j) → (unlock ls e)[j]? = e[j]?
  | [], _, _, _ => rfl
  | (i, t) :: ls, e, j, h => by
    simp only [unlock]
    rw [unlock_ne ls _ j fun p m => h p (List.mem_cons_of_mem _ m), List.getElem?_set_ne (h (i, t) List.mem_cons_self)]
theorem kl_unlock {ls : List (Nat × T)} (h : ∀ p ∈ ls, ∀ t, e[p.1]? ≠ some (.lk t)) (k : KL e e1) : KL e (unlock ls e1) := ⟨by rw [unlock_len]; exact k.1, fun i t hi => by
  rw [unlock_ne ls e1 i fun p hp z => h p hp t (by rw [z]; exact hi)]
  exact k.2 i t hi⟩
theorem LP.ul {α : Type} {o : Out α} {r : R} (h : LP (lockR r e).2 o) : LP e (o.ul (lockR r e).1) := by
  obtain ⟨h1, h2⟩ := lockR_holds (r := r) (e := e)
  have hn : ∀ p ∈ (lockR r e).1, ∀ t, e[p.1]? ≠ some (.lk t) := fun p hp t => by rw [(h1 p hp).2]; simp
  cases o with
  | ok a e1 => exact kl_unlock hn (h2.trans h)
  | exc c fs e1 => exact kl_unlock hn (h2.trans h)
  | bad => trivial
theorem kl_asgT : ∀ {tg : Tg} {t : T} {e e' : Env}, asgT tg t e = some e' → KL e e'
  | .n i, t, e, e', h => by
    simp only [asgT] at h
    split at h
    · cases h
    · rename_i s hn es
      simp at h; rw [← h]
      exact KL.set es fun t z => hn t (by rw [z])
    · cases h
  | .t2 a b, t, e, e', h => by
    simp only [asgT] at h
    split at h
    · split at h
      · rename_i h1; exact (kl_asgT h1).trans (kl_asgT h)
      · cases h
    · split at h
      · rename_i h1; exact (kl_asgT h1).trans (kl_asgT h)
      · cases h
    · split at h
      · rename_i h1; exact (kl_asgT h1).trans (kl_asgT h)
      · cases h
    · cases h
  | .t3 a b c, t, e, e', h => by
    simp only [asgT] at h
    split at h
    · split at h
      · rename_i h1
        split at h
        · rename_i h2; exact ((kl_asgT h1).trans (kl_asgT h2)).trans (kl_asgT h)
        · cases h
      · cases h
    · split at h
      · rename_i h1
        split at h
        · rename_i h2; exact ((kl_asgT h1).trans (kl_asgT h2)).trans (kl_asgT h)
        · cases h
      · cases h
    · cases h
theorem wipe_klo : ∀ {own : List Nat} {e : Env}, KLo own e (wipeE own e)
  | [], e => KLo.refl
  | i :: own, e => by
    have h := wipe_klo (own := own) (e := e)
    refine ⟨by simp [wipeE, h.1], fun j t hj ht => ?_⟩
    simp only [List.mem_cons, not_or] at hj
    simp only [wipeE]
    rw [List.getElem?_set_ne (Ne.symm hj.1)]
    exact h.2 j t hj.2 ht
theorem back_len : ∀ {own : List Nat} {e0 e : Env}, (backE e0 own e).length = e.length
  | [], _, _ => rfl
  | i :: own, e0, e => by simp [backE, back_len (own := own)]
theorem back_at {e0 : Env} {j : Nat} {t : T} (ht : e0[j]? = some (.lk t)) : ∀ (own : List Nat) (e : Env), e.length = e0.length → (j ∉ own → e[j]? = some (.lk t)) → (backE e0 own e)[j]? = some (.lk t)
  | [], e, _, h => h (by simp)
  | i :: own, e, hl, h => by
    simp only [backE]
    refine back_at ht own _ (by simpa using hl) fun hn => ?_
    by_cases hj : j = i
    · subst hj
      have hlt : j < e0.length := (List.getElem?_eq_some_iff.mp ht).1
      rw [List.getElem?_set_self (by rw [hl]; exact hlt), List.getD_eq_getElem?_getD, ht]; rfl
    · rw [List.getElem?_set_ne (Ne.symm hj)]
      exact h (by simp [hj, hn])
theorem back_kl {own : List Nat} {e0 e : Env} (h : KLo own e0 e) : KL e0 (backE e0 own e) := ⟨by rw [back_len]; exact h.1, fun j t ht => back_at ht own e h.1 fun hn => h.2 j t hn ht⟩
/-- what is walked -/
def LPi (e : Env) (o : Out (List D × List (Nat × T))) : Prop := match o with
  | .ok a e' => KL e e' ∧ ∀ p ∈ a.2, e'[p.1]? = some (.lk p.2) ∧ ∀ t, e[p.1]? ≠ some (.lk t)
  | .exc _ _ e' => KL e e'
  | .bad => True
theorem opened_lp {r : R} {o : List D × List (Nat × T)} (h : opened r e = some (o, e')) : KL e e' ∧ ∀ p ∈ o.2, e'[p.1]? = some (.lk p.2) ∧ ∀ t, e[p.1]? ≠ some (.lk t) := by
  unfold opened at h
  split at h
  · split at h
    · simp at h; rw [← h.2, ← h.1]; exact ⟨KL.refl, fun p hp => by simp at hp⟩
    · cases h
  · split at h
    · rename_i i ks _ ts es
      simp at h; rw [← h.2, ← h.1]
      refine ⟨KL.setIs es, fun p hp => ?_⟩
      simp at hp; subst hp
      have hlt : i < e.length := (List.getElem?_eq_some_iff.mp es).1
      exact ⟨List.getElem?_set_self hlt, fun t z => by rw [es] at z; cases z⟩
    · split at h
      · simp at h; rw [← h.2, ← h.1]; exact ⟨KL.refl, fun p hp => by simp at hp⟩
      · cases h
    · split at h
      · rename_i h1
        split at h
        · simp at h; rw [← h.2, ← h.1]; exact ⟨kl_mvF h1, fun p hp => by simp at hp⟩
        · cases h
      · cases h
theorem lpi_bnd {α : Type} {o : Out α} {f : α → Env → Out (List D × List (Nat × T))} (h : LP e o) (k : ∀ a e', LPi e' (f a e')) : LPi e (o.bnd f) := by
  cases o with
  | ok a e' =>
    have h2 := k a e'
    have h : KL e e' := h
    simp only [Out.bnd]
    revert h2
    generalize f a e' = o2
    intro h2
    cases o2 with
    | ok b e2 => exact ⟨h.trans h2.1, fun p hp => ⟨(h2.2 p hp).1, fun t z => (h2.2 p hp).2 t (h.2 p.1 t z)⟩⟩
    | exc c fs e2 => exact KL.trans h h2
    | bad => trivial
  | exc c fs e' => exact h
  | bad => trivial
def LPo {α : Type} (own : List Nat) (e : Env) (o : Out α) : Prop := match o with
  | .ok _ e' => KLo own e e'
  | .exc _ _ _ => False
  | .bad => True
theorem LP.nox {α : Type} {o : Out α} (h : LP e o) : LPo own e o.nox := by
  cases o with
  | ok a e1 => exact KL.o h
  | exc c fs e1 => trivial
  | bad => trivial
theorem LPo.pre {α : Type} {o : Out α} (h : KLo own e e1) (k : LPo own e1 o) : LPo own e o := by
  cases o with
  | ok a e' => exact h.trans k
  | exc c fs e' => exact k
  | bad => trivial
theorem lp_compL {f : D → Env → Out (List T)} (h : ∀ d e, LPo own e (f d e).nox) : ∀ (ds : List D) (e : Env), LPo own e (compL f ds e)
  | [], e => KLo.refl
  | d :: ds, e => by
    simp only [compL]
    have h1 := h d e
    cases q : (f d e).nox with
    | ok a e1 =>
      rw [q] at h1
      simp only [Out.bnd]
      have h2 := lp_compL h ds e1
      cases q2 : compL f ds e1 with
      | ok b e2 =>
        rw [q2] at h2
        simp only
        split
        · exact KLo.trans h1 h2
        · trivial
      | exc c fs e2 => rw [q2] at h2; exact h2.elim
      | bad => trivial
    | exc c fs e1 => rw [q] at h1; exact h1.elim
    | bad => trivial
/-- a body that ends with a wipe -/
theorem LP.wiped {α β : Type} {o : Out α} {f : α → Env → Out β} (h : LP e o) (k : ∀ a e', LPo own e' (f a e').nox) : LPo own e (o.bnd f).nox := by
  cases o with
  | ok a e' => exact LPo.pre (KL.o h) (k a e')
  | exc c fs e' => trivial
  | bad => trivial
theorem LPi.lp {o : Out (List D × List (Nat × T))} (h : LPi e o) : LP e o := by
  cases o with
  | ok a e' => exact h.1
  | exc c fs e' => exact h
  | bad => trivial
theorem ownOk_at {i : Nat} (h : ownOk own e = true) (hi : i ∈ own) : e[i]? = some .un ∨ ∃ d, e[i]? = some (.is (.fz d)) := by
  unfold ownOk at h
  have := List.all_eq_true.mp h i hi
  split at this
  · rename_i q; exact .inl q
  · rename_i d q; exact .inr ⟨d, q⟩
  · cases this
theorem bnd_ok {α β : Type} {a : α} {f : α → Env → Out β} : (Out.ok a e).bnd f = f a e := rfl
theorem lp_inner {own1 : List Nat} {e4 e5 : Env} {ls : List (Nat × T)} {oc : Out (List T)} (hs : ∀ i ∈ own1, i ∈ own) (h1 : KL e4 e5) (h2 : ∀ p ∈ ls, ∀ t, e4[p.1]? ≠ some (.lk t)) (hl : LPo own1 (wipeE own1 e5) oc) : LPo own e4 (oc.bnd fun ts e11 => .ok ts (wipeE own (unlock ls e11))).nox := by
  cases oc with
  | ok ts e11 =>
    have k1 : KLo own1 e5 e11 := wipe_klo.trans hl
    have k2 : KLo own e4 e11 := ⟨k1.1.trans h1.1, fun i t hn ht => k1.2 i t (fun z => hn (hs i z)) (h1.2 i t ht)⟩
    refine KLo.trans (e1 := unlock ls e11) ⟨by rw [unlock_len]; exact k2.1, fun i t hn ht => ?_⟩ wipe_klo
    rw [unlock_ne _ _ i fun p hp z => h2 p hp t (by rw [z]; exact ht)]
    exact k2.2 i t hn ht
  | exc c fs e11 => exact hl.elim
  | bad => trivial
/-- a comprehension's end -/
theorem lp_compEnd {ls : List (Nat × T)} {o : Out (List T)} {f : List T → Env → Out R} (h1 : KL e e1) (h2 : ∀ p ∈ ls, ∀ t, e[p.1]? ≠ some (.lk t)) (h : LPo own (wipeE own e1) o) (hf : ∀ ts e7, f ts e7 = .ok (.t (.own ts)) (unlock ls (backE e1 own e7))) : LP e (o.bnd f) := by
  cases o with
  | ok ts e7 =>
    simp only [Out.bnd, hf]
    exact kl_unlock h2 (h1.trans (back_kl (wipe_klo.trans h)))
  | exc c fs e7 => exact h.elim
  | bad => trivial
end
section
variable (C : Cf)
mutual
theorem lp_ev : ∀ (x : E) (e : Env), LP e (ev C x e)
  | .c d, e => KL.refl
  | .v i, e => by
    simp only [ev]
    split <;> first | exact KL.refl | trivial
  | .g n, e => by
    simp only [ev]
    split <;> first | exact KL.refl | trivial
  | .bin o a b, e => by simp only [ev]; exact (lp_ev a e).stl.bnd fun l e1 => (lp_ev b e1).stl.bnd fun r e2 => lp_binR
  | .neg a, e => by
    simp only [ev]
    refine (lp_ev a e).bnd fun l e1 => ?_
    split <;> first | exact KL.refl | trivial
  | .cmp a r, e => by simp only [ev]; exact (lp_ev a e).stl.bnd fun l e1 => (lp_evc r l e1).bnd fun k e2 => KL.refl
  | .and a b, e => by
    simp only [ev]
    refine (lp_ev a e).bnd fun l e1 => ?_
    split
    · exact lp_ev b e1
    · exact KL.refl
    · trivial
  | .or a b, e => by
    simp only [ev]
    refine (lp_ev a e).bnd fun l e1 => ?_
    split
    · exact KL.refl
    · exact lp_ev b e1
    · trivial
  | .not a, e => by
    simp only [ev]
    refine (lp_ev a e).bnd fun l e1 => ?_
    split <;> first | exact KL.refl | trivial
  | .ife c a b, e => by
    simp only [ev]
    refine (lp_ev c e).bnd fun l e1 => ?_
    split
    · exact lp_ev a e1
    · exact lp_ev b e1
    · trivial
  | .tup es, e => by
    simp only [ev]
    refine (lp_evs es e).bnd fun rs e1 => ?_
    split
    · rename_i h
      split
      · exact kl_mvs h
      · trivial
    · trivial
  | .lst es, e => by
    simp only [ev]
    refine (lp_evs es e).bnd fun rs e1 => ?_
    split
    · rename_i h
      split
      · exact kl_mvs h
      · trivial
    · trivial
  | .call f es perm, e => by
    simp only [ev]
    refine (lp_evs es e).bnd fun rs e1 => ?_
    split
    · exact lp_callF
    · trivial
  | .bi b es, e => by simp only [ev]; exact (lp_evs es e).bnd fun rs e1 => lp_biR
  | .meth m o es, e => by
    simp only [ev]
    refine (lp_ev o e).bnd fun r e1 => ?_
    split
    · exact (lp_evs es _).ul.bnd fun rs e2 => lp_mtR
    · trivial
  | .sub a b, e => by
    simp only [ev]
    refine (lp_ev a e).bnd fun r e1 => ?_
    split
    · refine (lp_ev b _).ul.bnd fun rs e2 => ?_
      split
      · unfold rR
        split <;> first | exact KL.refl | trivial
      · trivial
    · trivial
  | .slc a lo hi, e => by
    simp only [ev]
    refine (lp_ev a e).stl.bnd fun l e1 => (lp_evo lo e1).bnd fun i e2 => (lp_evo hi e2).bnd fun j e3 => ?_
    split
    · split
      · split
        · rename_i h; exact kl_kidsR h
        · trivial
      · trivial
    · trivial
  | .rev a, e => by
    simp only [ev]
    refine (lp_ev a e).stl.bnd fun l e1 => ?_
    split
    · split
      · split
        · rename_i h; exact kl_kidsR h
        · trivial
      · trivial
    · trivial
  | .comp own x tg it ifs, e => by
    simp only [ev]
    have hi := lp_evi it e
    cases q : evi C it e with
    | exc c fs e1 => rw [q] at hi; exact hi
    | bad => trivial
    | ok o e1 =>
      rw [q] at hi
      rw [bnd_ok]
      split
      · refine lp_compEnd hi.1 (fun p hp => (hi.2 p hp).2) (lp_compL (fun d e2 => ?_) _ _) fun ts e7 => rfl
        split
        · trivial
        · rename_i e3 ha
          refine LPo.pre (KL.o (kl_asgT ha)) ((lp_evt ifs e3).wiped fun k e4 => ?_)
          split
          · refine (lp_ev x e4).wiped fun r e5 => ?_
            split
            · rename_i hm
              exact KLo.trans (KL.o (kl_mv hm)) wipe_klo
            · trivial
          · exact wipe_klo
      · trivial
  | .comp2 own x tg it ifs own1 tg1 it1 ifs1, e => by
    simp only [ev]
    have hi := lp_evi it e
    cases q : evi C it e with
    | exc c fs e1 => rw [q] at hi; exact hi
    | bad => trivial
    | ok o e1 =>
      rw [q] at hi
      rw [bnd_ok]
      split
      · rename_i hsub
        simp only [Bool.and_eq_true, List.all_eq_true, List.contains_iff_mem] at hsub
        refine lp_compEnd hi.1 (fun p hp => (hi.2 p hp).2) (lp_compL (fun d e2 => ?_) _ _) fun ts e7 => rfl
        split
        · trivial
        · rename_i e3 ha
          refine LPo.pre (KL.o (kl_asgT ha)) ((lp_evt ifs e3).wiped fun k e4 => ?_)
          split
          · have hi1 := lp_evi it1 e4
            cases q1 : evi C it1 e4 with
            | exc c fs e5 => trivial
            | bad => trivial
            | ok o1 e5 =>
              rw [q1] at hi1
              rw [bnd_ok]
              split
              · refine lp_inner hsub.2 hi1.1 (fun p hp => (hi1.2 p hp).2) (lp_compL (fun d1 e6 => ?_) _ _)
                split
                · trivial
                · rename_i e7 ha1
                  refine LPo.pre (KL.o (kl_asgT ha1)) ((lp_evt ifs1 e7).wiped fun k1 e8 => ?_)
                  split
                  · refine (lp_ev x e8).wiped fun r e9 => ?_
                    split
                    · rename_i hm
                      exact KLo.trans (KL.o (kl_mv hm)) wipe_klo
                    · trivial
                  · exact wipe_klo
              · trivial
          · exact wipe_klo
      · trivial
theorem lp_evs : ∀ (xs : Es) (e : Env), LP e (evs C xs e)
  | .nil, e => KL.refl
  | .cons x es, e => by simp only [evs]; exact (lp_ev x e).stl.bnd fun r e1 => (lp_evs es e1).bnd fun rs e2 => KL.refl
  | .star x es, e => by
    simp only [evs]
    refine (lp_ev x e).bnd fun r e1 => ?_
    split
    · rename_i hm
      split
      · exact LP.pre (kl_mvF hm) ((lp_evs es _).bnd fun rs e2 => KL.refl)
      · trivial
    · trivial
theorem lp_evc : ∀ (r : Cs) (l : R) (e : Env), LP e (evc C r l e)
  | .one o b, l, e => by simp only [evc]; exact (lp_ev b e).stl.bnd fun r e1 => lp_cmpR
  | .more o b rest, l, e => by
    simp only [evc]
    refine (lp_ev b e).stl.bnd fun r e1 => lp_cmpR.bnd fun k e2 => ?_
    split
    · exact lp_evc rest r e2
    · exact KL.refl
theorem lp_evo : ∀ (x : Oe) (e : Env), LP e (evo C x e)
  | .none, e => KL.refl
  | .some x, e => by
    simp only [evo]
    refine (lp_ev x e).bnd fun r e1 => ?_
    split <;> first | exact KL.refl | trivial
theorem lp_evt : ∀ (x : Oe) (e : Env), LP e (evt C x e)
  | .none, e => KL.refl
  | .some x, e => by
    simp only [evt]
    refine (lp_ev x e).bnd fun r e1 => ?_
    split <;> first | exact KL.refl | trivial
theorem lp_evi : ∀ (x : It) (e : Env), LPi e (evi C x e)
  | .e x, e => by
    simp only [evi]
    have h := lp_ev x e
    cases q : ev C x e with
    | exc c fs e1 => rw [q] at h; exact h
    | bad => trivial
    | ok r e1 =>
      rw [q] at h
      simp only [Out.bnd]
      split
      · rename_i o e2 ho
        obtain ⟨h1, h2⟩ := opened_lp ho
        exact ⟨KL.trans h h1, fun p hp => ⟨(h2 p hp).1, fun t z => (h2 p hp).2 t (h.2 p.1 t z)⟩⟩
      · trivial
  | .rng1 a, e => by
    simp only [evi]
    refine lpi_bnd (lp_ev a e) fun r e1 => ?_
    split
    · split
      · exact ⟨KL.refl, fun p hp => by simp at hp⟩
      · trivial
    · trivial
  | .rng2 a b, e => by
    simp only [evi]
    refine lpi_bnd (lp_ev a e).stl fun r e1 => lpi_bnd (lp_ev b e1).stl fun r e1 => ?_
    split
    · split
      · exact ⟨KL.refl, fun p hp => by simp at hp⟩
      · trivial
    · trivial
  | .enum x, e => by
    simp only [evi]
    refine lpi_bnd (lp_ev x e) fun r e1 => ?_
    split
    · rename_i hm
      split
      · exact ⟨kl_mvF hm, fun p hp => by simp at hp⟩
      · trivial
    · trivial
  | .zip x y, e => by
    simp only [evi]
    refine lpi_bnd (lp_ev x e).stl fun r e1 => lpi_bnd (lp_ev y e1).stl fun r e1 => ?_
    split
    · rename_i hm
      exact ⟨kl_mvFs hm, fun p hp => by simp at hp⟩
    · rename_i hm
      exact ⟨kl_mvFs hm, fun p hp => by simp at hp⟩
    · trivial
end
end
end Fx

set_option Elab.async false
set_option linter.all false
set_option maxRecDepth 100000
/-! Fx: places within trees: locking them, changing them. -/
namespace Fx
open PySem PySem.Spec PyProof.Rows L2
section
variable {K : PySem.W.Frag} {G : Gh} {L P : List Addr} {σ σ' : SSt} {F F' H H' : Hp} {e e' : Env}
mutual
theorem RT.same_fp (s : Same F F') : ∀ {v : V} {t : T} {q q' : List Addr}, RT K F H v t q → RT K F' H' v t q' → (∀ a ∈ q, H' a = H a) → q' = q
  | _, _, _, _, .fz _, .fz _, _ => rfl
  | _, _, _, _, .own h1 h2 h3, .own k1 k2 k3, k => by
    have e := inj_lst ((k _ List.mem_cons_self).trans h2) k2
    subst e
    rw [RTs.same_fp s h3 k3 fun a ha => k a (List.mem_cons_of_mem _ ha)]
  | _, _, _, _, .tup h2 h3, .tup k2 k3, k => by
    have e := inj_tup (s _ _ h2) k2
    subst e
    rw [RTs.same_fp s h3 k3 k]
theorem RTs.same_fp (s : Same F F') : ∀ {vs : List V} {ts : List T} {q q' : List Addr}, RTs K F H vs ts q → RTs K F' H' vs ts q' → (∀ a ∈ q, H' a = H a) → q' = q
  | _, _, _, _, .nil, .nil, _ => rfl
  | _, _, _, _, .cons h hs, .cons k ks, z => by rw [RT.same_fp s h k fun a ha => z a (List.mem_append_left _ ha), RTs.same_fp s hs ks fun a ha => z a (List.mem_append_right _ ha)]
end
theorem At.keep : ∀ {ks : List Nat} {v0 v : V} {t u : T} {q : List Addr}, RT K F H v0 t q → getP t ks = some u → At H v0 ks v → (∀ a ∈ q, H' a = H a) → At H' v0 ks v
  | [], _, _, _, _, _, _, _, .nil, _ => .nil
  | n :: ks, _, v, _, u, _, .own (a := a) (xs := xs) (ts := ts) (fp := fp) h1 h2 hs, h, .cons (w := w) k1 k2 k3, k => by
    have ex := inj_lst h2 k1
    subst ex
    simp only [getP] at h
    cases et : ts[n]? with
    | none => rw [et] at h; cases h
    | some t1 =>
      rw [et] at h
      obtain ⟨w', A, q, B, e1, e2, e3, e4⟩ := hs.at et
      have ew : w' = w := Option.some.inj (e1.symm.trans k2)
      subst ew
      exact .cons ((k a List.mem_cons_self).trans h2) k2 (At.keep e3 h k3 fun b hb => k b (List.mem_cons_of_mem _ (by rw [e2]; simp [hb])))
  | _ :: _, _, _, _, _, _, .fz _, h, _, _ => by simp [getP] at h
  | _ :: _, _, _, _, _, _, .tup _ _, h, _, _ => by simp [getP] at h
theorem set_same {σ : SSt} {i : Nat} {v : V} (h : σ[i]? = some (some v)) : σ.set i (some v) = σ := by
  apply List.ext_getElem?
  intro j
  by_cases hj : j = i
  · subst hj
    have hlt : j < σ.length := (List.getElem?_eq_some_iff.mp h).1
    rw [List.getElem?_set_self hlt, h]
  · rw [List.getElem?_set_ne (Ne.symm hj)]
/-- a slot is locked; unlocked later -/
theorem Rel.lock {i : Nat} {t : T} (R : Rel K G L P e F σ H) (es : e[i]? = some (.is t)) : ∃ v0 q, σ[i]? = some (some v0) ∧ RT K F H v0 t q ∧ Rel K G (q ++ L) P (e.set i (.lk t)) F σ H ∧
    ∀ {e' : Env} {F' H' : Hp} {P' : List Addr} {σ' : SSt}, σ'[i]? = some (some v0) → Rel K G (q ++ L) P' e' F' σ' H' → Same F F' → (∀ a ∈ q, H' a = H a) → e'[i]? = some (.lk t) → Rel K G L P' (e'.set i (.is t)) F' σ' H' := by
  obtain ⟨fp, g1, g2, g4, g3⟩ := R.env
  obtain ⟨o, A, q, B, a1, rfl, ⟨v0, rfl, a3, a4⟩, a5⟩ := g1.at es
  have hqd := (List.nodup_append.mp (List.nodup_append.mp g2).2.1)
  have hAq := List.nodup_append.mp hqd.1
  have hout : ∀ a ∈ A ++ B, a ∉ q := fun a ha hq => by
    rcases List.mem_append.mp ha with z | z
    · exact hAq.2.2 a z a hq rfl
    · exact hqd.2.2 a (by simp [hq]) a z rfl
  refine ⟨v0, q, a1, a3, ?_, ?_⟩
  · have re := a5 (F' := F) (H' := H) (L' := q ++ L) (s' := .lk t) (o' := some v0) (q' := q) (fun r _ => r) (fun a ha => by have := hout a ha; simp [this]) ⟨v0, rfl, a3, fun a ha => by simp [ha]⟩
    rw [set_same a1] at re
    exact ⟨R.same, ⟨A ++ q ++ B, re, g2, fun a ha => by
      simp only [List.mem_append, not_or]
      exact ⟨fun z => (List.nodup_append.mp g2).2.2 a ha a (by simp [z]) rfl, g4 a ha⟩, g3⟩, R.tups, R.sub, R.new, R.frm, R.live, fun a ha => by
      rcases List.mem_append.mp ha with z | z
      · exact (g3 a (by simp [z])).2.1
      · exact R.lv a z⟩
  · intro e' F' H' P' σ' hv R' s k es'
    obtain ⟨fp', h1, h2, h4, h3⟩ := R'.env
    obtain ⟨o', A', q', B', b1, rfl, ⟨v', rfl, b3, b4⟩, b5⟩ := h1.at es'
    rw [hv] at b1
    cases b1
    have eq := RT.same_fp s a3 b3 k
    subst eq
    have hqd' := (List.nodup_append.mp (List.nodup_append.mp h2).2.1)
    have hAq' := List.nodup_append.mp hqd'.1
    have hout' : ∀ a ∈ A' ++ B', a ∉ q' := fun a ha hq => by
      rcases List.mem_append.mp ha with z | z
      · exact hAq'.2.2 a z a hq rfl
      · exact hqd'.2.2 a (by simp [hq]) a z rfl
    have re := b5 (F' := F') (H' := H') (L' := L) (s' := .is t) (o' := some v0) (q' := q') (fun r _ => r) (fun a ha => by have := hout' a ha; simp [this]) ⟨v0, rfl, b3, a4⟩
    rw [set_same hv] at re
    exact ⟨R'.same, ⟨A' ++ q' ++ B', re, h2, fun a ha z => h4 a ha (by simp [z]), h3⟩, R'.tups, R'.sub, R'.new, R'.frm, R'.live, fun a ha => R'.lv a (by simp [ha])⟩
/-- the locks ls, set where L became L1 -/
structure Lck (K : PySem.W.Frag) (G : Gh) (L L1 : List Addr) (σ : SSt) (F H : Hp) (ls : List (Nat × T)) : Prop where
  sub : ∀ a ∈ L, a ∈ L1
  un : ∀ {e' : Env} {F' H' : Hp} {P' : List Addr} {σ' : SSt}, Rel K G L1 P' e' F' σ' H' → Same F F' → (∀ a ∈ L1, H' a = H a) → (∀ p ∈ ls, e'[p.1]? = some (.lk p.2) ∧ σ'[p.1]? = σ[p.1]?) → Rel K G L P' (unlock ls e') F' σ' H'
theorem Lck.nil : Lck K G L L σ F H [] := ⟨fun _ h => h, fun R _ _ _ => R⟩
theorem Rel.lck {i : Nat} {t : T} (R : Rel K G L P e F σ H) (es : e[i]? = some (.is t)) : ∃ L1, Lck K G L L1 σ F H [(i, t)] ∧ Rel K G L1 P (e.set i (.lk t)) F σ H ∧ ∃ v0 q, σ[i]? = some (some v0) ∧ RT K F H v0 t q ∧ ∀ a ∈ q, a ∈ L1 := by
  obtain ⟨v0, q, h1, h2, h3, h4⟩ := R.lock es
  exact ⟨q ++ L, ⟨fun a ha => by simp [ha], fun R' s k hl => h4 (by rw [(hl _ List.mem_cons_self).2]; exact h1) R' s (fun a ha => k a (by simp [ha])) (hl _ List.mem_cons_self).1⟩, h3, v0, q, h1, h2, fun a ha => by simp [ha]⟩
theorem Rel.lockR (R : Rel K G L P e F σ H) (r : Fx.R) : ∃ L1, Lck K G L L1 σ F H (Fx.lockR r e).1 ∧ Rel K G L1 P (Fx.lockR r e).2 F σ H := by
  unfold Fx.lockR
  split
  · split
    · rename_i t es
      obtain ⟨L1, h1, h2, _⟩ := R.lck es
      exact ⟨L1, h1, h2⟩
    · exact ⟨L, Lck.nil, R⟩
  · exact ⟨L, Lck.nil, R⟩
theorem Prs.sub {L1 : List Addr} (p : Prs P L1 H H') (s : ∀ a ∈ L, a ∈ L1) : Prs P L H H' := fun x h => p x (h.elim .inl fun z => .inr (s x z))
theorem RR.un {L1 : List Addr} {F0 H0 : Hp} {ls : List (Nat × T)} {r : Fx.R} {v : V} (lk : Lck K G L L1 σ F0 H0 ls) (R : RR K G L1 P σ r e F H v) (s : Same F0 F) (k : ∀ a ∈ L1, H a = H0 a) (hl : ∀ p ∈ ls, e[p.1]? = some (.lk p.2)) : RR K G L P σ r (unlock ls e) F H v := by
  cases r with
  | t x => obtain ⟨fp, h1, h2⟩ := R; exact ⟨fp, h1, lk.un h2 s k fun p hp => ⟨hl p hp, rfl⟩⟩
  | p i ks => obtain ⟨h2, h1⟩ := R; exact ⟨lk.un h2 s k fun p hp => ⟨hl p hp, rfl⟩, h1⟩
theorem RRs.un {L1 : List Addr} {F0 H0 : Hp} {ls : List (Nat × T)} {rs : List Fx.R} {vs : List V} (lk : Lck K G L L1 σ F0 H0 ls) (R : RRs K G L1 P σ rs e F H vs) (s : Same F0 F) (k : ∀ a ∈ L1, H a = H0 a) (hl : ∀ p ∈ ls, e[p.1]? = some (.lk p.2)) : RRs K G L P σ rs (unlock ls e) F H vs := by
  obtain ⟨fps, h1, h2⟩ := R
  exact ⟨fps, h1, lk.un h2 s k fun p hp => ⟨hl p hp, rfl⟩⟩
/-- what is pending, and the place behind a lock, at a later state -/
theorem RR.later {r : Fx.R} {v : V} {Q0 : List Addr} {e1 e2 : Env} {F1 F2 H1 H2 : Hp} (h : (∃ t fp, r = .t t ∧ Q0 = fp ∧ RT K F1 H1 v t fp) ∨ (∃ i ks v0, r = .p i ks ∧ Q0 = [] ∧ σ[i]? = some (some v0) ∧ At H1 v0 ks v ∧ (ks = [] ∨ ∀ t u, slotT e2 i = some t → getP t ks = some u → ∃ q, RT K F1 H1 v0 t q ∧ ∀ a ∈ q, H2 a = H1 a)))
    (R : Rel K G L (Q0 ++ P) e2 F2 σ H2) (s : Same F1 F2) (k : ∀ a ∈ Q0, H2 a = H1 a) (hr : (∃ i ks u t, r = .p i ks ∧ slotT e2 i = some t ∧ getP t ks = some u) ∨ ∃ t, r = .t t) : RR K G L P σ r e2 F2 H2 v := by
  rcases h with ⟨t, fp, rfl, rfl, h⟩ | ⟨i, ks, v0, rfl, rfl, h1, h2, h3⟩
  · exact ⟨_, h.frame s fun a ha => ⟨(R.outP a (by simp [ha])).1, k a ha⟩, R⟩
  · refine ⟨R, v0, h1, ?_⟩
    rcases h3 with rfl | h3
    · cases h2; exact .nil
    · rcases hr with ⟨i', ks', u, t, er, e1, e2⟩ | ⟨t, er⟩
      · cases er
        obtain ⟨q, q1, q2⟩ := h3 t u e1 e2
        exact At.keep q1 e2 h2 q2
      · cases er
end
section
variable {w : Wd} {G : Gh} {L L1 P : List Addr} {σ : SSt} {F F' H H' : Hp} {e e' : Env}
/-- what is locked is locked at the end -/
def Held {α : Type} (ls : List (Nat × T)) (o : Out α) : Prop := match o with
  | .ok _ e' => ∀ p ∈ ls, e'[p.1]? = some (.lk p.2)
  | .exc _ _ e' => ∀ p ∈ ls, e'[p.1]? = some (.lk p.2)
  | .bad => True
theorem Po.ul {α α' β β' : Type} {rep : α → Env → Hp → Hp → β → Prop} {rep' : α' → Env → Hp → Hp → β' → Prop} {ls : List (Nat × T)} {o : Out α} {f : α → Env → Out α'} {Q : β' → Hp → Prop} {Q' : β → Hp → Prop} (lk : Lck w.K G L L1 σ F H ls)
    (hl : Held ls o)
    (h : Po w G L P σ rep' F H ((o.ul ls).bnd f) Q) {Q0 : List Addr}
    (k : ∀ a e' b F' H', o = .ok a e' → rep a e' F' H' b → Same F F' → Prs (Q0 ++ P) L1 H H' → (∀ p ∈ ls, e'[p.1]? = some (.lk p.2)) → Po w G L P σ rep' F' H' (f a (unlock ls e')) Q → Q' b H') : Po w G L1 (Q0 ++ P) σ rep F H o Q' := by
  cases o with
  | ok a e' =>
    intro b F2 H2 r s p
    have hp : ∀ p ∈ ls, e'[p.1]? = some (.lk p.2) := hl
    exact k a e' b F2 H2 rfl r s p hp (Po.base h s ((p.less fun x m => by simp [m]).sub lk.sub))
  | exc c fs e' =>
    intro F2 H2 cls d r x s p
    have hp : ∀ p ∈ ls, e'[p.1]? = some (.lk p.2) := hl
    exact h F2 H2 cls d (lk.un (Rel.drop r) s (fun a ha => p a (.inr ha)) fun q hq => ⟨hp q hq, rfl⟩) x s ((p.less fun x m => by simp [m]).sub lk.sub)
  | bad => exact h.elim
theorem LP.holds {α : Type} {o : Out α} {r : R} (h : LP (lockR r e).2 o) : Held (lockR r e).1 o := by
  cases o with
  | ok a e1 => exact fun p hp => h.2 p.1 p.2 ((lockR_holds (r := r) (e := e)).1 p hp).1
  | exc c fs e1 => exact fun p hp => h.2 p.1 p.2 ((lockR_holds (r := r) (e := e)).1 p hp).1
  | bad => trivial
/-- the place r of the state e1, later -/
theorem RR.ready {r : R} {v : V} {e1 : Env} {F1 H1 : Hp} (R : RR w.K G L P σ r e1 F1 H1 v) (ho : okL r e1 = true) : ∃ Q0 L1, Rel w.K G L (Q0 ++ P) e1 F1 σ H1 ∧ Lck w.K G L L1 σ F1 H1 (lockR r e1).1 ∧ Rel w.K G L1 (Q0 ++ P) (lockR r e1).2 F1 σ H1 ∧
    ∀ {e2' : Env} {F2 H2 : Hp} {Q1 : List Addr}, KL (lockR r e1).2 e2' → Rel w.K G L (Q0 ++ (Q1 ++ P)) (unlock (lockR r e1).1 e2') F2 σ H2 → Same F1 F2 → Prs (Q0 ++ P) L1 H1 H2 → ((∃ i ks u t, r = .p i ks ∧ slotT (unlock (lockR r e1).1 e2') i = some t ∧ getP t ks = some u) ∨ ∃ t, r = .t t) → RR w.K G L (Q1 ++ P) σ r (unlock (lockR r e1).1 e2') F2 H2 v := by
  cases r with
  | t x =>
    obtain ⟨fp, h1, h2⟩ := R
    exact ⟨fp, L, h2, Lck.nil, h2, fun kl R2 s p hr => RR.later (F1 := F1) (H1 := H1) (e1 := e1) (.inl ⟨x, fp, rfl, rfl, h1⟩) R2 s (fun a ha => p a (.inl (by simp [ha]))) hr⟩
  | p i ks =>
    obtain ⟨h1, v0, h2, h3⟩ := R
    cases ks with
    | nil => exact ⟨[], L, h1, Lck.nil, h1, fun kl R2 s p hr => RR.later (F1 := F1) (H1 := H1) (e1 := e1) (.inr ⟨i, [], v0, rfl, rfl, h2, h3, .inl rfl⟩) R2 s (fun a ha => by simp at ha) hr⟩
    | cons j ks =>
      simp only [okL] at ho
      cases es : e1[i]? with
      | none => simp [slotT, es] at ho
      | some sl =>
        cases sl with
        | un => simp [slotT, es] at ho
        | is t =>
          have el : lockR (.p i (j :: ks)) e1 = ([(i, t)], e1.set i (.lk t)) := by simp [lockR, es]
          obtain ⟨L1, k1, k2, v1, q, k3, k4, k5⟩ := h1.lck es
          rw [h2] at k3; cases k3
          refine ⟨[], L1, h1, by rw [el]; exact k1, by rw [el]; exact k2, fun {e2' F2 H2 Q1} kl R2 s p hr => RR.later (F1 := F1) (H1 := H1) (e1 := e1) (.inr ⟨i, j :: ks, v0, rfl, rfl, h2, h3, .inr fun t' u e3 e4 => ?_⟩) R2 s (fun a ha => by simp at ha) hr⟩
          have hlt : i < e1.length := (List.getElem?_eq_some_iff.mp es).1
          have e5 : (unlock (lockR (.p i (j :: ks)) e1).1 e2')[i]? = some (.is t) := by
            rw [el]
            simp only [unlock]
            rw [List.getElem?_set_self]
            rw [kl.1, el]; simpa using hlt
          rw [slotT_is e5] at e3
          cases e3
          exact ⟨q, k4, fun a ha => p a (.inr (k5 a ha))⟩
        | lk t =>
          have el : lockR (.p i (j :: ks)) e1 = ([], e1) := by simp [lockR, es]
          obtain ⟨fp, g1, g2, g4, g3⟩ := h1.env
          obtain ⟨o, A, q, B, a1, rfl, ⟨v', rfl, a3, a4⟩, a5⟩ := g1.at es
          rw [h2] at a1; cases a1
          refine ⟨[], L, h1, by rw [el]; exact Lck.nil, by rw [el]; exact h1, fun {e2' F2 H2 Q1} kl R2 s p hr => RR.later (F1 := F1) (H1 := H1) (e1 := e1) (.inr ⟨i, j :: ks, v0, rfl, rfl, h2, h3, .inr fun t' u e3 e4 => ?_⟩) R2 s (fun a ha => by simp at ha) hr⟩
          rw [el] at e3 kl
          have e5 := kl.2 i t es
          simp only [unlock] at e3
          rw [slotT_lk e5] at e3
          cases e3
          exact ⟨q, a3, fun a ha => p a (.inr (a4 a ha))⟩
end
end Fx

set_option Elab.async false
set_option linter.all false
set_option maxRecDepth 100000
/-! Fx expressions: subscripts, slices, methods. -/
namespace Fx
open PySem PySem.Spec PyProof.Rows L2
section
variable {K : PySem.W.Frag} {G : Gh} {L P : List Addr} {σ : SSt} {F F' H H' : Hp} {e e' : Env}
theorem at_get {xs : List V} {n : Int} {j : Nat} {z : V} {m : Nat} (hm : xs.length = m) (h : ixN m n = some j) (hz : xs[j]? = some z) : atI xs n = some z := by
  unfold atI
  rw [show L2.ixN xs.length n = some j by rw [hm]; exact h]
  exact hz
theorem ixD_at {ds : List D} {xs : List V} {n : Int} {d : D} (h : ixD ds n = some d) (r : RPs K F xs ds) : ∃ z, atI xs n = some z ∧ RP K F z d := by
  unfold ixD at h
  cases e1 : ixN ds.length n with
  | none => rw [e1] at h; cases h
  | some j =>
    rw [e1] at h
    obtain ⟨z, h1, h2⟩ := r.get h
    exact ⟨z, at_get r.len e1 h1, h2⟩
theorem RP.item {x : V} {dd d d' : D} (r : RP K F x dd) (h : subD dd d = some d') : ∃ n, d = .int n ∧ ∃ a xs z, x = .ref a ∧ (SqL K F a xs ∨ SqT K F a xs) ∧ atI xs n = some z ∧ RP K F z d' := by
  cases r with
  | @lst a xs ds h1 h2 =>
    cases d with
    | int n => obtain ⟨z, k1, k2⟩ := ixD_at h h2; exact ⟨n, rfl, a, xs, z, rfl, .inl (SqL.of h1), k1, k2⟩
    | _ => simp [subD] at h
  | @rol a xs ds h1 h2 =>
    cases d with
    | int n => obtain ⟨z, k1, k2⟩ := ixD_at h h2; exact ⟨n, rfl, a, xs, z, rfl, .inl h1, k1, k2⟩
    | _ => simp [subD] at h
  | @tup a xs ds h1 h2 =>
    cases d with
    | int n => obtain ⟨z, k1, k2⟩ := ixD_at h h2; exact ⟨n, rfl, a, xs, z, rfl, .inr h1.t, k1, k2⟩
    | _ => simp [subD] at h
  | _ => simp [subD] at h
theorem SqL.up {a : Addr} {xs : List V} (s : Same F H) (h : SqL K F a xs) : SqL K H a xs := s.seq h
theorem SqT.up {a : Addr} {xs : List V} (s : Same F H) (h : SqT K F a xs) : SqT K H a xs := by
  rcases h with h | h
  · rcases h with h | ⟨o, h⟩
    · exact .inl (.inl (s _ _ h))
    · exact .inl (.inr ⟨o, s _ _ h⟩)
  · exact .inr h
theorem subR_place {l r' : Fx.R} {d : D} (h : subR l d e = some r') : (∃ i ks u t, l = .p i ks ∧ slotT e i = some t ∧ getP t ks = some u) ∨ ∃ t, l = .t t := by
  cases l with
  | t x => exact .inr ⟨x, rfl⟩
  | p i ks =>
    left
    simp only [subR] at h
    cases e1 : slotT e i with
    | none => rw [e1] at h; cases h
    | some t =>
      rw [e1] at h
      simp only at h
      cases e2 : getP t ks with
      | none => rw [e2] at h; cases h
      | some u => exact ⟨i, ks, u, t, rfl, e1, e2⟩
theorem At.snoc : ∀ {ks : List Nat} {v0 v z : V} {a : Addr} {xs : List V} {j : Nat}, At H v0 ks v → v = .ref a → H a = some (.lst xs) → xs[j]? = some z → At H v0 (ks ++ [j]) z
  | [], _, _, _, _, _, _, .nil, e, h, hz => by subst e; exact .cons h hz .nil
  | _ :: _, _, _, _, _, _, _, .cons h1 h2 h3, e, h, hz => .cons h1 h2 (At.snoc h3 e h hz)
theorem subR_ok {l r' : Fx.R} {d : D} {x : V} (R : RR K G L P σ l e F H x) (h : subR l d e = some r') : ∃ n, d = .int n ∧ ∃ a xs z, x = .ref a ∧ (SqL K H a xs ∨ SqT K H a xs) ∧ atI xs n = some z ∧ ∃ F', Same F F' ∧ RR K G L P σ r' e F' H z := by
  have fin : ∀ {dd : D} {F1 : Hp}, RP K F1 x dd → Same F F1 → Rel K G L P e F1 σ H → (match subD dd d with | some d => some (Fx.R.t (.fz d)) | none => none) = some r' → ∃ n, d = .int n ∧ ∃ a xs z, x = .ref a ∧ (SqL K H a xs ∨ SqT K H a xs) ∧ atI xs n = some z ∧ ∃ F', Same F F' ∧ RR K G L P σ r' e F' H z := fun {dd F1} rp s R1 h => by
    cases e1 : subD dd d with
    | none => rw [e1] at h; cases h
    | some d' =>
      rw [e1] at h
      cases h
      obtain ⟨n, rfl, a, xs, z, rfl, k1, k2, k3⟩ := rp.item e1
      exact ⟨n, rfl, a, xs, z, rfl, k1.elim (fun k => .inl (SqL.up R1.same k)) (fun k => .inr (SqT.up R1.same k)), k2, F1, s, [], .fz k3, R1⟩
  cases l with
  | t x' =>
    obtain ⟨fp, h1, h2⟩ := R
    simp only [subR] at h
    split at h
    · rename_i ts n
      cases h1 with
      | @own a xs _ fp k1 k2 hs =>
        cases e1 : ixN ts.length n with
        | none => rw [e1] at h; cases h
        | some j =>
          rw [e1] at h
          simp only at h
          cases e2 : ts[j]? with
          | none => rw [e2] at h; cases h
          | some u =>
            rw [e2] at h
            cases h
            obtain ⟨z, A, q, B, m1, rfl, m3, _⟩ := hs.at e2
            refine ⟨n, rfl, a, xs, z, rfl, .inl (SqL.of k2), at_get hs.len e1 m1, F, Same.refl F, q, m3, ?_⟩
            refine Rel.drop (Q := a :: (A ++ B)) (h2.perm ?_)
            apply List.perm_iff_count.mpr
            intro b
            simp only [List.count_append, List.count_cons]
            omega
    · obtain ⟨F1, s1, r1, R1⟩ := h2.frz h1
      exact fin r1 s1 R1 h
  | p i ks =>
    obtain ⟨h1, v0, h2, h3⟩ := R
    simp only [subR] at h
    obtain ⟨fp, g1, g2, g4, g3⟩ := h1.env
    cases e1 : slotT e i with
    | none => rw [e1] at h; cases h
    | some t =>
      rw [e1] at h
      simp only at h
      obtain ⟨v', q, w1, w2, w3⟩ := g1.slot e1
      rw [h2] at w1; cases w1
      cases e2 : getP t ks with
      | none => rw [e2] at h; cases h
      | some u =>
        rw [e2] at h
        obtain ⟨A, q', B, rfl, m2, _⟩ := w2.down e2 h3
        cases u with
        | fz dd =>
          cases m2 with
          | fz m2 => exact fin m2 (Same.refl F) h1 h
        | own ts =>
          simp only at h
          cases d with
          | int n =>
            simp only at h
            cases m2 with
            | @own a xs _ fp k1 k2 hs =>
              cases e3 : ixN ts.length n with
              | none => rw [e3] at h; cases h
              | some j =>
                rw [e3] at h
                simp only at h
                cases e4 : ts[j]? with
                | none => rw [e4] at h; cases h
                | some u =>
                  rw [e4] at h
                  obtain ⟨z, A, q, B, m1, rfl, m3, _⟩ := hs.at e4
                  refine ⟨n, rfl, a, xs, z, rfl, .inl (SqL.of k2), at_get hs.len e3 m1, F, Same.refl F, ?_⟩
                  have gen : some (Fx.R.p i (ks ++ [j])) = some r' → RR K G L P σ r' e F H z := fun h => by
                    cases h
                    exact ⟨h1, v0, h2, At.snoc h3 rfl k2 m1⟩
                  cases u with
                  | fz d' =>
                    cases h
                    cases m3 with
                    | fz m3 => exact ⟨[], .fz m3, h1⟩
                  | own _ => exact gen h
                  | ownd _ => exact gen h
                  | tup _ => exact gen h
          | _ => cases h
        | ownd _ => cases h
        | tup ts =>
          simp only at h
          cases d with
          | int n =>
            simp only at h
            cases m2 with
            | @tup a xs _ _ k2 hs =>
              cases e3 : ixN ts.length n with
              | none => rw [e3] at h; cases h
              | some j =>
                rw [e3] at h
                simp only at h
                cases e4 : ts[j]? with
                | none => rw [e4] at h; cases h
                | some u =>
                  rw [e4] at h
                  obtain ⟨z, A, q, B, m1, rfl, m3, _⟩ := hs.at e4
                  cases u with
                  | fz d' =>
                    cases h
                    cases m3 with
                    | fz m3 => exact ⟨n, rfl, a, xs, z, rfl, .inr (SqT.of (h1.same _ _ k2)), at_get hs.len e3 m1, F, Same.refl F, [], .fz m3, h1⟩
                  | own _ => cases h
                  | ownd _ => cases h
                  | tup _ => cases h
          | _ => cases h
end
section
variable {tb : Tb} {w : Wd} {k : Nat} {sc ws : Scope} {X : Cx}
theorem LP.kl {α : Type} {o : Out α} {e e' : Env} {a : α} (h : LP e o) (eo : o = .ok a e') : KL e e' := by rw [eo] at h; exact h
theorem pe_subE {a b : E} {x y : Expr} {pos : Pos} (g : Gd tb w k sc ws X) (ha : PE X x (tE w a)) (hb : PE X y (tE w b)) (hs : PlainIx y) : PE X (.Subscript x y pos) (tE w (.sub a b)) := by
  refine (pe_ix (ix_list.or ix_tup) ha hb hs).imp' fun σ H Q h => ?_
  obtain ⟨G, L, P, e, F, R, h⟩ := h
  simp only [ev] at h
  refine ⟨G, L, P, e, F, R, Po.bnd h fun l e1 x F1 H1 _ R1 s1 p1 h1 => ?_⟩
  have R1 : RR w.K G L P σ l e1 F1 H1 x := R1
  split at h1
  · rename_i ho
    obtain ⟨Q0, L1, A1, lk, A2, later⟩ := R1.ready ho
    refine ⟨G, L1, Q0 ++ P, (lockR l e1).2, F1, A2, Po.ul lk (LP.holds (lp_ev _ b _)) h1 fun r e2 y F2 H2 eq R2 s2 p2 hl h2 => ?_⟩
    have R2 : RR w.K G L1 (Q0 ++ P) σ r e2 F2 H2 y := R2
    have R3 := R2.un lk s2 (fun a ha => p2 a (.inr ha)) hl
    cases ed : rd (unlock (lockR l e1).1 e2) r with
    | none => rw [ed] at h2; exact h2.elim
    | some d =>
      rw [ed] at h2
      simp only at h2
      cases es : subR l d (unlock (lockR l e1).1 e2) with
      | none => rw [es] at h2; exact h2.elim
      | some r' =>
        rw [es] at h2
        have R4 := later (Q1 := []) ((lp_ev _ b _).kl eq) R3.rel' s2 p2 (subR_place es)
        obtain ⟨n, rfl, a, xs, z, rfl, k1, k2, F', k3, k4⟩ := subR_ok R4 es
        cases R3.rd ed
        rw [g.K]
        have q := h2 z F' H2 k4 k3 Prs.refl
        exact k1.elim (fun k1 => .inl ⟨a, xs, n, z, rfl, rfl, k1, k2, q⟩) fun k1 => .inr ⟨a, xs, n, z, rfl, rfl, k1, k2, q⟩
  · exact h1.elim
/-! ### slices -/
theorem Po.nextO {G : Gh} {L P : List Addr} {σ : SSt} {F H : Hp} {e : Env} {α' β' : Type} {rep' : α' → Env → Hp → Hp → β' → Prop} {rs : List R} {vs : List V} {x : Oe} {f : Option Int → Env → Out α'} {Q : β' → Hp → Prop} {Q' : Option Int → Hp → Prop} (hR : RRs w.K G L P σ rs e F H vs)
    (h : Po w G L P σ rep' F H ((evo w.C x e).bnd f) Q) (k : ∀ a e' F' H', RRs w.K G L P σ rs e' F' H' vs → Same F F' → Prs P L H H' → Po w G L P σ rep' F' H' (f a e') Q → Q' a H') : tEo w x σ H Q' := by
  obtain ⟨fps, hp, R⟩ := hR
  refine ⟨G, L, fps ++ P, e, F, R, ?_⟩
  cases eo : evo w.C x e with
  | ok a e' =>
    intro b F2 H2 rr s2 p2
    rw [eo] at h
    obtain ⟨rfl, R2⟩ := rr
    have p3 : Prs P L H H2 := p2.less fun x m => by simp [m]
    exact k b e' F2 H2 ⟨fps, hp.frame s2 fun a ha => ⟨(R2.outP a (by simp [ha])).1, p2 a (.inl (by simp [ha]))⟩, R2⟩ s2 p3 (Po.base h s2 p3)
  | exc c fs e' =>
    rw [eo] at h
    exact fun F' H' cls d r x s p => h F' H' cls d (Rel.drop r) x s (p.less fun x m => by simp [m])
  | bad => rw [eo] at h; exact h
theorem poE_none : L2.PO X none (tEo w .none) := po_none.imp' fun σ H Q ⟨G, L, P, e, F, R, h⟩ => h none F H ⟨rfl, R⟩ (Same.refl _) Prs.refl
theorem poE_some {x : E} {y : Expr} (hx : PE X y (tE w x)) : L2.PO X (some y) (tEo w (.some x)) := by
  refine (po_some hx).imp' fun σ H Q h => ?_
  obtain ⟨G, L, P, e, F, R, h⟩ := h
  simp only [evo] at h
  refine ⟨G, L, P, e, F, R, Po.bnd h fun r e1 v F1 H1 _ R1 s1 p1 h1 => ?_⟩
  have R1 : RR w.K G L P σ r e1 F1 H1 v := R1
  split at h1
  · rename_i i er
    cases R1.rd er
    exact ⟨i, rfl, h1 (some i) F1 H1 ⟨rfl, R1.rel'⟩ (Same.refl _) Prs.refl⟩
  · exact h1.elim
theorem sIx_eq (n d : Nat) (o : Option Int) : sIx n d o = HT.sIx n d o := by cases o <;> rfl
theorem RPs.cutV {K : PySem.W.Frag} {F : Hp} {xs : List V} {ds : List D} (r : RPs K F xs ds) (lo hi : Option Int) : RPs K F (L2.cutV xs lo hi) (cut ds lo hi) := by
  unfold L2.cutV cut
  rw [r.len, ← sIx_eq, ← sIx_eq]
  exact (r.drop _).take _
theorem pe_slcE {a : E} {lo hi : Oe} {x : Expr} {l u : Option Expr} {pos p2 : Pos} (g : Gd tb w k sc ws X) (ha : PE X x (tE w a)) (hl : L2.PO X l (tEo w lo)) (hu : L2.PO X u (tEo w hi)) : PE X (.Subscript x (.Slice l u none p2) pos) (tE w (.slc a lo hi)) := by
  refine (pe_slice (sl_list.or sl_tupA) ha hl hu).imp' fun σ H Q h => ?_
  obtain ⟨G, L, P, e, F, R, h⟩ := h
  simp only [ev] at h
  refine Po.next (RRs.nil R) h fun l e1 x F1 H1 R1 s1 p1 h1 => ?_
  refine Po.nextO R1 h1 fun i e2 F2 H2 R2 s2 p2 h2 => ?_
  refine Po.nextO R2 h2 fun j e3 F3 H3 R3 s3 p3 h3 => ?_
  have R3 : RRs w.K G L P σ [l] e3 F3 H3 [x] := R3
  cases ed : rd e3 l with
  | none => rw [ed] at h3; exact h3.elim
  | some d =>
    rw [ed] at h3
    simp only at h3
    cases es : sliceD d i j with
    | none => rw [es] at h3; exact h3.elim
    | some t =>
      rw [es] at h3
      simp only at h3
      cases ek : kidsR l e3 with
      | none => rw [ek] at h3; exact h3.elim
      | some e4 =>
        rw [ek] at h3
        obtain ⟨F4, s4, k4, R4⟩ := R3.kids (ds := [d]) (e' := e4) (by simp [rds, ed]) (by simp [kidsRs, ek])
        obtain ⟨v, ev, k5⟩ := k4.one
        cases ev
        have h4 := Po.base h3 s4 Prs.refl
        rw [g.K]
        cases d with
        | lst ds =>
          obtain ⟨a, xs, rfl, q1, q2⟩ := k5
          simp only [sliceD, Option.some.injEq] at es
          subst es
          exact .inl ⟨a, xs, rfl, SqL.of q1, fun p hp => Po.nr h4 R4 (.lst hp (q2.cutV i j))⟩
        | rol ds =>
          obtain ⟨a, xs, rfl, q1, q2⟩ := RP.rol' R4.same k5
          simp only [sliceD, Option.some.injEq] at es
          subst es
          exact .inl ⟨a, xs, rfl, q1, fun p hp => Po.nr h4 R4 (.lst hp (q2.cutV i j))⟩
        | tup ds =>
          obtain ⟨a, xs, rfl, q1, q2⟩ := k5
          simp only [sliceD, Option.some.injEq] at es
          subst es
          refine .inr ⟨a, xs, rfl, q1.t, fun hw => ?_, fun _ p hp => Po.nr h4 R4 (.tup hp (q2.cutV i j))⟩
          have ec : cut ds i j = ds := by
            unfold cut
            rw [sIx_eq, sIx_eq, ← q2.len, hw.1, hw.2, Nat.sub_zero, List.drop_zero, q2.len, List.take_length]
          rw [ec] at h4
          exact Po.nr h4 R4 (.val (.tup (q1.dn R4.tups) q2))
        | _ => simp [sliceD] at es
end
end Fx

set_option Elab.async false
set_option linter.all false
set_option maxRecDepth 100000
/-! Fx: x[::-1]. -/
namespace Fx
open PySem PySem.Spec PyProof.Rows L2
section
variable {prog : Program} {w : World} {A : Around} {E : Value → Shared → Prop} {s : Shared}
theorem sliceApplied_rev {sl : Addr} {vs : Value} {n : Nat} {Q : Int × Int × Nat → Shared → Prop} (hs : s.heap.IsSliceOf sl .none .none vs) (ps : IsPart vs (some (-1)))
    (h : Q ((n : Int) - 1, -1, n) s) : wpAny (model prog w) A (Builtin.Slice.sliceApplied (.ref sl) (pure (n : Int))) Q E s := by
  obtain ⟨os, hos, hcs, hds⟩ := id hs
  unfold Builtin.Slice.sliceApplied Builtin.Slice.sliceFields
  refine wpAny_bind (wpAny_bind (wpAny_field hos hds (x := .none) rfl (wpAny_bind (wpAny_field hos hds (x := .none) rfl (wpAny_bind (wpAny_field hos hds (x := vs) rfl (wpAny_pure ?_)))))))
  refine wpAny_bind (HT.slicePart_ ps ?_)
  show wpAny _ _ (if ((-1 : Int) == 0) = true then _ else _) _ _ s
  rw [if_neg (by decide)]
  refine wpAny_bind (slicePart_none (wpAny_bind (slicePart_none (wpAny_bind (wpAny_pure ?_)))))
  show wpAny _ _ (pure ((n : Int) - 1, (-1 : Int), Builtin.Slice.slicePlaces ((n : Int) - 1) (-1) (-1))) _ _ s
  have e : Builtin.Slice.slicePlaces ((n : Int) - 1) (-1) (-1) = n := by
    unfold Builtin.Slice.slicePlaces
    rw [if_neg (by decide)]
    have e1 : ((n : Int) - 1 - -1 - 1) / (- -1) = (n : Int) - 1 := by
      rw [show (- -1 : Int) = 1 by decide, Int.ediv_one]; omega
    rw [e1]
    split <;> omega
  rw [e]
  exact wpAny_pure h
theorem fm_congr {α β : Type} {f g : α → Option β} : ∀ {l : List α}, (∀ m ∈ l, f m = g m) → l.filterMap f = l.filterMap g
  | [], _ => rfl
  | a :: l, h => by rw [List.filterMap_cons, List.filterMap_cons, h a List.mem_cons_self, fm_congr fun m hm => h m (List.mem_cons_of_mem _ hm)]
theorem pick_rev (xs : Array Value) : ((List.range xs.size).filterMap fun (m : Nat) => xs[((xs.size : Int) - 1 + (m : Int) * (-1)).toNat]?).toArray = xs.toList.reverse.toArray := by
  congr 1
  have h1 : (List.range xs.size).filterMap (fun (m : Nat) => xs[((xs.size : Int) - 1 + (m : Int) * (-1)).toNat]?) = (List.range xs.toList.reverse.length).filterMap fun m => xs.toList.reverse[m]? := by
    rw [List.length_reverse, Array.length_toList]
    refine fm_congr fun m hm => ?_
    have hm : m < xs.size := List.mem_range.mp hm
    rw [List.getElem?_reverse (by rw [Array.length_toList]; exact hm), Array.length_toList, Array.getElem?_toList]
    congr 1
    omega
  rw [h1]
  generalize xs.toList.reverse = l
  have : ∀ (l : List Value), (List.range l.length).filterMap (fun m => l[m]?) = l := fun l => by
    induction l with
    | nil => rfl
    | cons a l ih =>
      rw [List.length_cons, List.range_succ_eq_map, List.filterMap_cons, List.filterMap_map]
      simp only [List.getElem?_cons_zero]
      congr 1
  exact this l
theorem getItem_tuple_rev {t sl : Addr} {items : Array Value} {vs : Value} {Q : Value → Shared → Prop} (ht : IsTup s.heap t items) (hs : s.heap.IsSliceOf sl .none .none vs) (ps : IsPart vs (some (-1)))
    (h : Q (.ref s.heap.objs.size) { s with heap := s.heap.push { cls := .type "tuple", data := .seq items.toList.reverse.toArray } })
    (hsz : items.size ≤ sizeLine) : wpAny (model prog w) A (getItem (.ref t) (.ref sl)) Q E s := by
  have htake : sizeOk (.seq items.toList.reverse.toArray) := by
    show items.toList.reverse.toArray.size ≤ sizeLine
    rw [List.size_toArray, List.length_reverse, Array.length_toList]
    exact hsz
  obtain ⟨os, hos, hcs, hds⟩ := id hs
  have hTs : s.TypeIs (.ref sl) "slice" := ⟨os, hos, hcs⟩
  unfold getItem
  try with_reducible refine wpAny_holding ?_
  first | refine wpAny_bind (wpAny_pure ?_) | skip
  refine wpAny_bind (wpAny_sequenceKey ht.typeIs (by decide) ?_)
  refine wpAny_bind (wpAny_callSpecial?_slot (name := Str.ofString "__getitem__") ht.typeIs PyProof.Rows.slot_tuple_getitem
    (wpAny_call_entry PyProof.Rows.slot_tuple_getitem ht.typeIs entry_tuple_getitem ?_ (args_tuple_getitem _ _)))
  show wpAny _ _ (Builtin.Tuple.tupleItemsOf (.ref t) >>= _) _ _ s
  refine wpAny_bind (tupleItemsOf_ ht ?_)
  refine wpAny_bind (wpAny_typeOf hTs ?_)
  rw [if_pos (by decide)]
  refine wpAny_bind (sliceApplied_rev hs ps ?_)
  have hno : ¬ ((((items.size : Int) - 1) == 0 && (-1 : Int) == 1 && items.size == items.size) = true) := by
    simp
  show wpAny _ _ (if (((items.size : Int) - 1) == 0 && (-1 : Int) == 1 && items.size == items.size) = true then _ else _) _ _ s
  rw [if_neg hno, pick_rev]
  first
    | exact wpAny_bind (m := Builtin.Tuple.tupleExact _) (wpAny_newObj_type (wpAny_pure ⟨_, rfl, wpAny_pure h⟩) htake)
    | exact wpAny_bind (m := Builtin.Tuple.tupleExact _) (wpAny_newObj_type (wpAny_bind (wpAny_pure (wpAny_pure ⟨_, rfl, wpAny_pure h⟩))) htake)
    | exact wpAny_bind (wpAny_bind (m := Builtin.Tuple.tupleExact _) (wpAny_newObj_type (wpAny_pure (wpAny_pure ⟨_, rfl, wpAny_pure h⟩)) htake))
    | exact wpAny_bind (wpAny_bind (m := Builtin.Tuple.tupleExact _) (wpAny_newObj_type (wpAny_pure ⟨_, rfl, wpAny_pure h⟩) htake))
end
section
variable {X : Cx}
/-- x[::-1] of a list or a tuple -/
def tRevA (K : PySem.W.Frag) (te : TE) : TE := fun σ H Q => te σ H fun x H1 => ∃ a xs, x = .ref a ∧ ((SqL K H1 a xs ∧ ∀ p, H1 p = none → Q (.ref p) (upd H1 p (.lst xs.reverse))) ∨ (SqT K H1 a xs ∧ ∀ p, H1 p = none → Q (.ref p) (upd H1 p (.tup xs.reverse))))
theorem pe_revA {e : Expr} {te : TE} {k : Nat} {p1 p2 p3 pos : Pos} (he : PE X e te) : PE X (.Subscript e (.Slice none none (some (.UnaryOp .USub (.Constant (.int 1) k p1) p2)) p3) pos) (tRevA X.K te) := by
  refine ⟨fun pins s σ H Q I h => ?_⟩
  refine Subscript_ (thn (he.run pins s σ H _ I h) fun v s1 ⟨x, H1, I1, r1, q1⟩ => ?_)
  obtain ⟨a, xs, ex, hq⟩ := q1
  subst ex
  cases r1
  have hst : L2.PO X (some (.UnaryOp .USub (.Constant (.int 1) k p1) p2)) (tPart (tUn (rU fun i => .int (-i)) (tC (.int 1)))) := po_some (pe_un un_neg pe_int)
  refine wpAny_Slice (thn (po_none.run pins s1 σ H1 (fun o H2 => o = none ∧ H2 = H1) I1 ⟨rfl, rfl⟩) fun vl s2 ⟨l, H2, I2, pl, el, e2⟩ => ?_)
  subst el e2
  refine thn (po_none.run pins s2 σ H2 (fun o H3 => o = none ∧ H3 = H2) I2 ⟨rfl, rfl⟩) fun vu s3 ⟨u, H3, I3, pu, eu, e3⟩ => ?_
  subst eu e3
  refine thn (hst.run pins s3 σ H3 (fun o H4 => o = some (-1) ∧ H4 = H3) I3 ⟨1, rfl, -1, rfl, rfl, rfl⟩) fun vs s4 ⟨o, H4, I4, ps, eo, e4⟩ => ?_
  subst eo e4
  have I5 : Inv X pins σ H4 { s4 with heap := s4.heap.push { cls := .type "slice", data := .fields #[vl, vu, vs] } } := I4.kept (t' := s4.toks) fun b ob q => Heap.get?_push_of_some _ q
  show wpAny (model X.prog X.w) X.A (subscriptTail e (.Slice none none (some (.UnaryOp .USub (.Constant (.int 1) k p1) p2)) p3) (.ref a) (.ref s4.heap.objs.size)) (EP X pins σ Q) X.xe { s4 with heap := s4.heap.push { cls := .type "slice", data := .fields #[vl, vu, vs] } }
  rcases hq with ⟨hx, q⟩ | ⟨hx, q⟩
  · obtain ⟨its, r, ht, hz⟩ := I5.list hx
    have hlen := r.length
    refine tail_any (ops := [.ref a, .ref s4.heap.objs.size]) ht.isList.typeIs (PySem.slot_list_getitem.lookup) ?_ (by with_unfolding_all rfl)
    refine wpAny_getItem_list_slice ht.isList (Heap.IsSliceOf.new _ vl vu vs) pl pu ps (by decide) ?_ (by rw [List.size_toArray]; omega)
    rw [PySem.W.krv_pick]
    refine ⟨.ref _, _, I5.laid (t' := s4.toks) (o := .lst xs.reverse) (fun b ob q => Heap.get?_push_of_some _ q) (Nat.le_refl _) ?_, rfl, q _ (I5.hok.fresh (Nat.le_refl _))⟩
    exact ⟨by rw [List.length_reverse]; exact hz, _, 0, r.reverse, Heap.get?_push_size _ rfl⟩
  · obtain ⟨its, r, ht, hz⟩ := I5.tuple hx
    have hlen := r.length
    cases pl
    cases pu
    refine tail_any (ops := [.ref a, .ref s4.heap.objs.size]) ht.typeIs (PyProof.Rows.slot_tuple_getitem.lookup) ?_ (by with_unfolding_all rfl)
    refine getItem_tuple_rev ht (Heap.IsSliceOf.new _ .none .none vs) ps ?_ (by rw [List.size_toArray]; omega)
    refine ⟨.ref _, _, I5.laid (t' := s4.toks) (o := .tup xs.reverse) (fun b ob q => Heap.get?_push_of_some _ q) (Nat.le_refl _) ?_, rfl, q _ (I5.hok.fresh (Nat.le_refl _))⟩
    exact ⟨by rw [List.length_reverse]; exact hz, _, r.reverse, ⟨_, Heap.get?_push_size _ rfl, rfl, 0, by simp⟩⟩
end
section
variable {tb : Tb} {w : Wd} {k : Nat} {sc ws : Scope} {X : Cx}
theorem pe_revE {a : E} {x : Expr} {n : Nat} {p1 p2 p3 pos : Pos} (g : Gd tb w k sc ws X) (ha : PE X x (tE w a)) : PE X (.Subscript x (.Slice none none (some (.UnaryOp .USub (.Constant (.int 1) n p1) p2)) p3) pos) (tE w (.rev a)) := by
  refine (pe_revA ha).imp' fun σ H Q h => ?_
  obtain ⟨G, L, P, e, F, R, h⟩ := h
  simp only [ev] at h
  refine Po.next (RRs.nil R) h fun l e3 x F3 H3 R3 s3 p3 h3 => ?_
  have R3 : RRs w.K G L P σ [l] e3 F3 H3 [x] := R3
  cases ed : rd e3 l with
  | none => rw [ed] at h3; exact h3.elim
  | some d =>
    rw [ed] at h3
    simp only at h3
    cases es : revD d with
    | none => rw [es] at h3; exact h3.elim
    | some t =>
      rw [es] at h3
      simp only at h3
      cases ek : kidsR l e3 with
      | none => rw [ek] at h3; exact h3.elim
      | some e4 =>
        rw [ek] at h3
        obtain ⟨F4, s4, k4, R4⟩ := R3.kids (ds := [d]) (e' := e4) (by simp [rds, ed]) (by simp [kidsRs, ek])
        obtain ⟨v, ev, k5⟩ := k4.one
        cases ev
        have h4 := Po.base h3 s4 Prs.refl
        rw [g.K]
        cases d with
        | lst ds =>
          obtain ⟨a, xs, rfl, q1, q2⟩ := k5
          simp only [revD, Option.some.injEq] at es
          subst es
          exact ⟨a, xs, rfl, .inl ⟨SqL.of q1, fun p hp => Po.nr h4 R4 (.lst hp q2.rev)⟩⟩
        | tup ds =>
          obtain ⟨a, xs, rfl, q1, q2⟩ := k5
          simp only [revD, Option.some.injEq] at es
          subst es
          exact ⟨a, xs, rfl, .inr ⟨q1.t, fun p hp => Po.nr h4 R4 (.tup hp q2.rev)⟩⟩
        | _ => simp [revD] at es
end
end Fx

set_option Elab.async false
set_option linter.all false
set_option maxRecDepth 100000
/-! Fx: lists of the frame's own that are changed: methods, stores. -/
namespace Fx
open PySem PySem.Spec PyProof.Rows L2
section
variable {K : PySem.W.Frag} {G : Gh} {L P Q : List Addr} {σ : SSt} {F F' H H' : Hp} {e e' : Env}
/-- the list at a place of a slot is rewritten -/
theorem Rel.put {i : Nat} {t : T} {ks : List Nat} {ts : List T} {v0 x : V} (R : Rel K G L (Q ++ P) e F σ H) (es : e[i]? = some (.is t)) (hv : σ[i]? = some (some v0)) (hg : getP t ks = some (.own ts)) (hat : At H v0 ks x) :
    ∃ l xs fpts, x = .ref l ∧ H l = some (.lst xs) ∧ RTs K F H xs ts fpts ∧ l ∉ fpts ++ (Q ++ P) ∧
    ∀ {xs' : List V} {ts' : List T} {fp' Qr rest : List Addr} {t' : T}, setP t ks (.own ts') = some t' → RTs K F (upd H l (.lst xs')) xs' ts' fp' → (fpts ++ Q).Perm (fp' ++ Qr ++ rest) →
      Rel K G L (Qr ++ P) (e.set i (.is t')) F σ (upd H l (.lst xs')) ∧ Prs P L H (upd H l (.lst xs')) := by
  obtain ⟨fp, g1, g2, g4, g3⟩ := R.env
  obtain ⟨o, A, q, B, a1, rfl, ⟨v', rfl, a3, a4⟩, a5⟩ := g1.at es
  rw [hv] at a1; cases a1
  obtain ⟨A', q', B', rfl, b2, b3⟩ := a3.down hg hat
  cases b2 with
  | @own l xs _ fpts k1 k2 hs =>
    have nd := g2
    have pold : ((Q ++ P) ++ (A ++ (A' ++ (l :: fpts) ++ B') ++ B)).Perm (l :: (fpts ++ Q) ++ (P ++ A ++ A' ++ B' ++ B)) := by
      apply List.perm_iff_count.mpr
      intro b
      simp only [List.count_append, List.count_cons]
      omega
    have nd1 := nd_perm pold g2
    have ndl := List.nodup_append.mp nd1
    have ndl2 := List.nodup_cons.mp ndl.1
    have l1 : l ∉ fpts ++ Q := ndl2.1
    have l2 : l ∉ P ++ A ++ A' ++ B' ++ B := fun z => ndl.2.2 l (by simp) l z rfl
    refine ⟨l, xs, fpts, rfl, k2, hs, fun z => ?_, ?_⟩
    · simp only [List.mem_append] at z l1 l2
      rcases z with z | z | z
      · exact l1 (.inl z)
      · exact l1 (.inr z)
      · exact l2 (by simp [z])
    intro xs' ts' fp' Qr rest t' hset hrs hp
    have hsub : ∀ a, a ∈ fp' ∨ a ∈ Qr → a ∈ fpts ∨ a ∈ Q := fun a ha => by
      have := hp.mem_iff (a := a)
      simp only [List.mem_append] at this
      exact this.mpr (.inl ha)
    have hne : ∀ a, a ∈ fpts ∨ a ∈ Q → a ≠ l := fun a ha z => l1 (by subst z; simpa using ha)
    have fr : ∀ a ∈ P ++ A ++ A' ++ B' ++ B, F a = none ∧ upd H l (.lst xs') a = H a := fun a ha => by
      refine ⟨(g3 a ?_).1, upd_ne fun z => l2 (z ▸ ha)⟩
      simp only [List.mem_append] at ha ⊢
      rcases ha with (((z | z) | z) | z) | z <;> simp [z]
    have rt := b3 (F' := F) (H' := upd H l (.lst xs')) (q2 := l :: fp') hset (fun r hs => r.frame (Same.refl F) fun a ha => fr a (by have := hs a ha; simp at this ⊢; rcases this with z | z <;> simp [z])) (fun a ha => fr a (by simp at ha ⊢; rcases ha with z | z <;> simp [z])) (.own k1 upd_same hrs)
    have hL : ∀ a, a ∈ fpts ∨ a ∈ Q → a ∉ L := fun a ha => by
      rcases ha with z | z
      · exact a4 a (by simp [z])
      · exact g4 a (by simp [z])
    have re := a5 (F' := F) (H' := upd H l (.lst xs')) (L' := L) (s' := .is t') (o' := some v0) (q' := A' ++ (l :: fp') ++ B') (fun r hs => r.frame (Same.refl F) fun a ha => fr a (by have := hs a ha; simp at this ⊢; rcases this with z | z <;> simp [z])) (fun _ _ => Iff.rfl)
      ⟨v0, rfl, rt, fun a ha => by
        simp only [List.mem_append, List.mem_cons] at ha
        rcases ha with (z | z | z) | z
        · exact a4 a (by simp [z])
        · exact a4 a (by simp [z])
        · exact hL a (hsub a (.inl z))
        · exact a4 a (by simp [z])⟩
    rw [set_same hv] at re
    have pnew : ((Qr ++ P) ++ (A ++ (A' ++ (l :: fp') ++ B') ++ B)).Perm (l :: (fp' ++ Qr) ++ (P ++ A ++ A' ++ B' ++ B)) := by
      apply List.perm_iff_count.mpr
      intro b
      simp only [List.count_append, List.count_cons]
      omega
    have ndn : (l :: (fp' ++ Qr) ++ (P ++ A ++ A' ++ B' ++ B)).Nodup := by
      have p2 : (l :: (fpts ++ Q) ++ (P ++ A ++ A' ++ B' ++ B)).Perm (rest ++ (l :: (fp' ++ Qr) ++ (P ++ A ++ A' ++ B' ++ B))) := by
        apply List.perm_iff_count.mpr
        intro b
        have := List.perm_iff_count.mp hp b
        simp only [List.count_append, List.count_cons] at this ⊢
        omega
      exact (List.nodup_append.mp (nd_perm p2 nd1)).2.1
    have all : ∀ a, a ∈ fpts ∨ a ∈ Q ∨ a = l ∨ a ∈ P ++ A ++ A' ++ B' ++ B → F a = none ∧ H a ≠ none ∧ (G.H0 a = none ∨ a ∈ G.M0) := fun a ha => g3 a (by
      simp only [List.mem_append, List.mem_cons] at ha ⊢
      rcases ha with z | z | z | (((z | z) | z) | z) | z <;> simp [z])
    have up : ∀ a, H a ≠ none → upd H l (.lst xs') a ≠ none := fun a ha => by
      by_cases z : a = l
      · subst z; rw [upd_same]; simp
      · rw [upd_ne z]; exact ha
    refine ⟨⟨fun a o e1 => ?_, ⟨_, re, nd_perm pnew.symm ndn, fun a ha => ?_, fun a ha => ?_⟩, fun a ys e1 => ?_, R.sub, R.new, fun a o e1 e2 => ?_, fun a ha => up a (R.live a ha), fun a ha => up a (R.lv a ha)⟩, fun a ha => ?_⟩
    · rw [upd_ne (ne_of_none e1 k1)]; exact R.same _ _ e1
    · rcases List.mem_append.mp ha with z | z
      · exact hL a (hsub a (.inr z))
      · exact g4 a (by simp [z])
    · have := pnew.mem_iff.mp ha
      simp only [List.mem_append, List.mem_cons] at this
      have ok := all a (by
        simp only [List.mem_append]
        rcases this with (z | z | z) | z
        · simp [z]
        · rcases hsub a (.inl z) with y | y <;> simp [y]
        · rcases hsub a (.inr z) with y | y <;> simp [y]
        · simp only [or_assoc] at z; rcases z with z | z | z | z | z <;> simp [z])
      exact ⟨ok.1, up a ok.2.1, ok.2.2⟩
    · by_cases z : a = l
      · subst z; rw [upd_same] at e1; cases e1
      · rw [upd_ne z] at e1; exact R.tups _ _ e1
    · have h1 := R.frm a o e1 e2
      rw [upd_ne fun z => ?_]; exact h1
      subst z
      rcases (all a (by simp)).2.2 with y | y
      · rw [y] at e1; cases e1
      · exact e2 y
    · refine upd_ne fun z => ?_
      subst z
      rcases ha with z | z
      · exact l2 (by simp [z])
      · exact a4 a (by simp) z
theorem RTs.pop : ∀ {vs : List V} {ts : List T} {fp : List Addr} {i : Nat} {t : T}, RTs K F H vs ts fp → ts[i]? = some t → ∃ v A q B, vs[i]? = some v ∧ fp = A ++ q ++ B ∧ RT K F H v t q ∧ RTs K F H (vs.eraseIdx i) (ts.eraseIdx i) (A ++ B)
  | _, _, _, _, _, .nil, e => by simp at e
  | _, _, _, 0, _, .cons (fp := fp) (fps := fps) h hs, e => by
    simp at e; subst e
    exact ⟨_, [], fp, fps, rfl, by simp, h, by simpa using hs⟩
  | _, _, _, i + 1, _, .cons (fp := fp) (fps := fps) h hs, e => by
    obtain ⟨v', A, q, B, h1, h2, h3, h4⟩ := RTs.pop (i := i) hs (by simpa using e)
    refine ⟨v', fp ++ A, q, B, by simpa using h1, by simp [h2], h3, ?_⟩
    have := RTs.cons h h4
    simpa [List.append_assoc] using this
end
section
variable {tb : Tb} {w : Wd} {k : Nat} {sc ws : Scope} {X : Cx}
variable {G : Gh} {L P : List Addr} {σ : SSt} {F H : Hp} {e : Env}
def rMt (K : PySem.W.Frag) (m : Mt) : V → List V → Hp → VK → Prop := match m with
  | .append => rAppend
  | .extend => rExtend
  | .pop => rPop
  | .popAt => rPopAt
/-- a list's place, later -/
theorem RR.ready2 {r : R} {v : V} {e1 : Env} {F1 H1 : Hp} (R : RR w.K G L P σ r e1 F1 H1 v) (ho : okL r e1 = true) (hi : isL r e1 = true) : ∃ Q0 L1, Rel w.K G L (Q0 ++ P) e1 F1 σ H1 ∧ Lck w.K G L L1 σ F1 H1 (lockR r e1).1 ∧ Rel w.K G L1 (Q0 ++ P) (lockR r e1).2 F1 σ H1 ∧
    (∃ a xs, v = .ref a ∧ H1 a = some (.lst xs)) ∧ ∀ {H2 : Hp} {i : Nat} {ks : List Nat}, r = .p i ks → Prs (Q0 ++ P) L1 H1 H2 → ∃ v0, σ[i]? = some (some v0) ∧ At H2 v0 ks v := by
  unfold isL at hi
  cases er : Fx.rd e1 r with
  | none => rw [er] at hi; cases hi
  | some d =>
    rw [er] at hi
    cases d with
    | lst ds =>
      have hl : ∃ a xs, v = .ref a ∧ H1 a = some (.lst xs) := by
        have := RR.rd R er
        cases this with
        | lst h1 h2 => exact ⟨_, _, rfl, h1⟩
      cases r with
      | t x =>
        obtain ⟨fp, h1, h2⟩ := R
        exact ⟨fp, L, h2, Lck.nil, h2, hl, fun e => by cases e⟩
      | p i ks =>
        obtain ⟨h1, v0, h2, h3⟩ := R
        cases ks with
        | nil => exact ⟨[], L, h1, Lck.nil, h1, hl, fun e p => by cases e; cases h3; exact ⟨_, h2, .nil⟩⟩
        | cons j ks =>
          simp only [okL] at ho
          cases es : e1[i]? with
          | none => simp [slotT, es] at ho
          | some sl =>
            cases sl with
            | un => simp [slotT, es] at ho
            | is t =>
              have el : lockR (.p i (j :: ks)) e1 = ([(i, t)], e1.set i (.lk t)) := by simp [lockR, es]
              obtain ⟨L1, k1, k2, v1, q, k3, k4, k5⟩ := h1.lck es
              rw [h2] at k3; cases k3
              refine ⟨[], L1, h1, by rw [el]; exact k1, by rw [el]; exact k2, hl, fun e p => ?_⟩
              cases e
              simp only [Fx.rd, slotT_is es] at er
              cases eg : getP t (j :: ks) with
              | none => rw [eg] at er; cases er
              | some u => exact ⟨v0, h2, At.keep k4 eg h3 fun a ha => p a (.inr (k5 a ha))⟩
            | lk t =>
              have el : lockR (.p i (j :: ks)) e1 = ([], e1) := by simp [lockR, es]
              obtain ⟨fp, g1, g2, g4, g3⟩ := h1.env
              obtain ⟨o, A, q, B, a1, rfl, ⟨v', rfl, a3, a4⟩, a5⟩ := g1.at es
              rw [h2] at a1; cases a1
              refine ⟨[], L, h1, by rw [el]; exact Lck.nil, by rw [el]; exact h1, hl, fun e p => ?_⟩
              cases e
              simp only [Fx.rd, slotT_lk es] at er
              cases eg : getP t (j :: ks) with
              | none => rw [eg] at er; cases er
              | some u => exact ⟨v0, h2, At.keep a3 eg h3 fun a ha => p a (.inr (a4 a ha))⟩
    | _ => cases hi
theorem RTs.up {K : PySem.W.Frag} {vs : List V} {ts : List T} {fp : List Addr} {l : Addr} {xs : List V} (h : RTs K F H vs ts fp) (hl : l ∉ fp) : RTs K F (upd H l (.lst xs)) vs ts fp :=
  h.frame (Same.refl F) fun a ha => ⟨(h.mem a ha).1, upd_ne fun z => hl (z ▸ ha)⟩
theorem RT.up {K : PySem.W.Frag} {v : V} {t : T} {fp : List Addr} {l : Addr} {xs : List V} (h : RT K F H v t fp) (hl : l ∉ fp) : RT K F (upd H l (.lst xs)) v t fp :=
  h.frame (Same.refl F) fun a ha => ⟨(h.mem a ha).1, upd_ne fun z => hl (z ▸ ha)⟩
theorem mtR_run {m : Mt} {r : R} {rs : List R} {x : V} {vs : List V} {Q : V → Hp → Prop} (Rs : RRs w.K G L P σ rs e F H vs) (hr : ∀ i ks, r = .p i ks → ∃ v0, σ[i]? = some (some v0) ∧ At H v0 ks x)
    (h : Po w G L P σ (rpR w G L P σ) F H (mtR m r rs e) Q) : rMt w.K m x vs H Q := by
  unfold mtR at h
  cases r with
  | t _ => exact h.elim
  | p i ks =>
    obtain ⟨v0, hv, hat⟩ := hr i ks rfl
    simp only at h
    cases em : mvs rs e with
    | none => rw [em] at h; exact h.elim
    | some q =>
      obtain ⟨as, e1⟩ := q
      rw [em] at h
      simp only at h
      obtain ⟨F1, fpa, s1, ra, R1⟩ := Rs.mvs em
      cases es : e1[i]? with
      | none => rw [es] at h; exact h.elim
      | some sl =>
        rw [es] at h
        cases sl with
        | un => exact h.elim
        | lk _ => exact h.elim
        | is t =>
          simp only at h
          cases eg : getP t ks with
          | none => rw [eg] at h; exact h.elim
          | some u =>
            rw [eg] at h
            cases u with
            | fz _ => exact h.elim
            | ownd _ => exact h.elim
            | tup _ => exact h.elim
            | own ts =>
              simp only at h
              obtain ⟨l, xs, fpts, rfl, hl, hs, hn, put⟩ := R1.put es hv eg hat
              have hz := hs.len
              simp only [List.mem_append, not_or] at hn
              cases et : mtT m ts as with
              | none => rw [et] at h; exact h.elim
              | some p2 =>
                obtain ⟨res, ts'⟩ := p2
                rw [et] at h
                simp only at h
                cases ep : setP t ks (.own ts') with
                | none => rw [ep] at h; exact h.elim
                | some t' =>
                  rw [ep] at h
                  have h := Po.base h s1 Prs.refl
                  cases m with
                  | append =>
                    match as, ra, et with
                    | [], _, et => simp [mtT] at et
                    | _ :: _ :: _, _, et => simp [mtT] at et
                    | [a0], ra, et =>
                      cases ra with
                      | @cons y _ _ _ fp0 _ r1 r2 =>
                        cases r2
                        simp only [mtT] at et
                        split at et
                        · rename_i hlt
                          simp at et
                          obtain ⟨rfl, rfl⟩ := et
                          refine ⟨l, xs, y, rfl, rfl, hl, by rw [hz, ← sizeL_eq]; exact hlt, ?_⟩
                          obtain ⟨R2, p2⟩ := put (xs' := xs ++ [y]) (fp' := fpts ++ (fp0 ++ [])) (Qr := []) (rest := []) ep ((hs.up hn.1).app (.cons (r1.up (by simpa using hn.2.1)) .nil)) (by simp)
                          exact h .non F1 _ ⟨[], .fz .non, R2⟩ (Same.refl _) p2
                        · cases et
                  | extend =>
                    match as, ra, et with
                    | [], _, et => simp [mtT] at et
                    | _ :: _ :: _, _, et => simp [mtT] at et
                    | [a0], ra, et =>
                      cases ra with
                      | @cons y _ _ _ fp0 _ r1 r2 =>
                        cases r2
                        cases a0 with
                        | own us =>
                          simp only [mtT] at et
                          split at et
                          · rename_i hlt
                            simp at et
                            obtain ⟨rfl, rfl⟩ := et
                            cases r1 with
                            | @own b zs _ fpz k1 k2 hs2 =>
                              have hn2 : l ∉ fpz := fun z => hn.2.1 (by simp [z])
                              refine ⟨l, b, xs, zs, rfl, rfl, hl, k2, by rw [hz, hs2.len, ← sizeL_eq]; exact hlt, ?_⟩
                              obtain ⟨R2, p2⟩ := put (xs' := xs ++ zs) (fp' := fpts ++ fpz) (Qr := []) (rest := [b]) ep ((hs.up hn.1).app (hs2.up hn2)) (by
                                apply List.perm_iff_count.mpr
                                intro c
                                simp only [List.count_append, List.count_cons, List.count_nil]
                                omega)
                              exact h .non F1 _ ⟨[], .fz .non, R2⟩ (Same.refl _) p2
                          · cases et
                        | _ => simp [mtT] at et
                  | pop =>
                    match as, ra, et with
                    | _ :: _, _, et => simp [mtT] at et
                    | [], ra, et =>
                      cases ra
                      simp only [mtT] at et
                      cases eu : ts[ts.length - 1]? with
                      | none => rw [eu] at et; cases et
                      | some u =>
                        rw [eu] at et
                        simp at et
                        obtain ⟨rfl, rfl⟩ := et
                        obtain ⟨y, A, q, B, m1, rfl, m3, m4⟩ := hs.pop eu
                        refine ⟨l, xs, y, rfl, rfl, hl, by rw [hz]; exact m1, ?_⟩
                        have e1 : xs.eraseIdx (ts.length - 1) = xs.dropLast := by rw [← hz]; exact PyProof.Rows.Copied.eraseIdx_last xs
                        have e2 : ts.eraseIdx (ts.length - 1) = ts.dropLast := PyProof.Rows.Copied.eraseIdx_last ts
                        rw [e1, e2] at m4
                        have hq : l ∉ q := fun z => hn.1 (by simp [z])
                        obtain ⟨R2, p2⟩ := put (xs' := xs.dropLast) (fp' := A ++ B) (Qr := q) (rest := []) ep (m4.up fun z => hn.1 (by simp at z ⊢; rcases z with z | z <;> simp [z])) (by
                          apply List.perm_iff_count.mpr
                          intro c
                          simp only [List.count_append, List.count_cons, List.count_nil]
                          omega)
                        exact h y F1 _ ⟨q, m3.up hq, R2⟩ (Same.refl _) p2
                  | popAt =>
                    match as, ra, et with
                    | [], _, et => simp [mtT] at et
                    | _ :: _ :: _, _, et => simp [mtT] at et
                    | [a0], ra, et =>
                      cases ra with
                      | @cons y0 _ _ _ fp0 _ r1 r2 =>
                        cases r2
                        cases a0 with
                        | fz d =>
                          cases d with
                          | int n =>
                            cases r1 with
                            | fz r1 =>
                              cases r1
                              simp only [mtT] at et
                              split at et
                              · rename_i hb
                                simp only [Bool.and_eq_true, decide_eq_true_eq] at hb
                                cases ei : ixN ts.length n with
                                | none => rw [ei] at et; cases et
                                | some j =>
                                  rw [ei] at et
                                  simp only at et
                                  cases eu : ts[j]? with
                                  | none => rw [eu] at et; cases et
                                  | some u =>
                                    rw [eu] at et
                                    simp at et
                                    obtain ⟨rfl, rfl⟩ := et
                                    obtain ⟨y, A, q, B, m1, rfl, m3, m4⟩ := hs.pop eu
                                    have hx : L2.ixN xs.length n = some j := by rw [hz]; exact ei
                                    obtain ⟨i1, i2, i3, i4⟩ := ixN_seq hx
                                    have hq : l ∉ q := fun z => hn.1 (by simp [z])
                                    obtain ⟨R2, p2⟩ := put (xs' := xs.eraseIdx j) (fp' := A ++ B) (Qr := q) (rest := []) ep (m4.up fun z => hn.1 (by simp at z ⊢; rcases z with z | z <;> simp [z])) (by
                                      apply List.perm_iff_count.mpr
                                      intro c
                                      simp only [List.count_append, List.count_cons, List.count_nil]
                                      omega)
                                    exact ⟨l, xs, n, j, y, rfl, rfl, hl, by omega, by omega, i1, m1, h y F1 _ ⟨q, m3.up hq, R2⟩ (Same.refl _) p2⟩
                              · cases et
                          | _ => simp [mtT] at et
                        | _ => simp [mtT] at et
end
section
variable {tb : Tb} {w : Wd} {k : Nat} {sc ws : Scope} {X : Cx}
def mtN : Mt → Str
  | .append => "append"
  | .extend => "extend"
  | .pop => "pop"
  | .popAt => "pop"
def mtI : Mt → String
  | .append => "list.append"
  | .extend => "list.extend"
  | .pop => "list.pop"
  | .popAt => "list.pop"
theorem mt_slot (m : Mt) : Slot "list" (mtN m) (mtI m) ∧ typeOf (.builtin (mtI m)) = pure (.type "method_descriptor") := by
  cases m
  · exact ⟨F.slot_list_append, F.type_list_append⟩
  · exact ⟨F.slot_list_extend, F.type_list_extend⟩
  · exact ⟨F.slot_list_pop, F.type_list_pop⟩
  · exact ⟨F.slot_list_pop, F.type_list_pop⟩
theorem mt_ok (m : Mt) : MtR X (mtI m) (rMt X.K m) := by
  cases m
  · exact mt_append
  · exact mt_extend
  · exact mt_pop
  · exact mt_popAt
theorem meth_read {m : Mt} {o : E} {es : Es} {σ : SSt} {H : Hp} {Q : V → Hp → Prop} (h : tE w (.meth m o es) σ H Q) : tE w o σ H fun x H1 => tyV w.K "list" x H1 ∧ tEs w es σ H1 fun xs H2 => rMt w.K m x xs H2 Q := by
  obtain ⟨G, L, P, e, F, R, h⟩ := h
  simp only [ev] at h
  refine ⟨G, L, P, e, F, R, Po.bnd h fun r e1 x F1 H1 _ R1 s1 p1 h1 => ?_⟩
  have R1 : RR w.K G L P σ r e1 F1 H1 x := R1
  split at h1
  · rename_i ho
    simp only [Bool.and_eq_true] at ho
    obtain ⟨Q0, L1, A1, lk, A2, ⟨a, xs, rfl, hl⟩, later⟩ := R1.ready2 ho.1 ho.2
    refine ⟨.inl ⟨rfl, xs, SqL.of hl⟩, G, L1, Q0 ++ P, (lockR r e1).2, F1, A2, Po.ul lk (LP.holds (lp_evs _ es _)) h1 fun rs e2 vs F2 H2 eq R2 s2 p2 hl h2 => ?_⟩
    have R2 : RRs w.K G L1 (Q0 ++ P) σ rs e2 F2 H2 vs := R2
    have R3 := R2.un lk s2 (fun a ha => p2 a (.inr ha)) hl
    have R4 : RRs w.K G L P σ rs (unlock (lockR r e1).1 e2) F2 H2 vs := by
      obtain ⟨fps, h1, h2⟩ := R3
      refine ⟨fps, h1, Rel.drop (Q := Q0) (h2.perm ?_)⟩
      apply List.perm_iff_count.mpr
      intro c
      simp only [List.count_append]
      omega
    exact mtR_run R4 (fun i ks er => later er p2) h2
  · exact h1.elim
theorem few_of {x : Expr} {xs : List Expr} {cpos : Pos} {env : PySem.Env} (hn : noStars (x :: xs) = true) (hl : decide ((x :: xs).length < 20) = true) : ((backTo cpos (starEach (x :: xs) env)).all (fun x => !x.1) && (backToKw cpos (keywordEach [] env)).all (fun x => x.1.isSome)
      && decide ((x :: xs).length + ([] : List Keyword).length + (if ([] : List Keyword).isEmpty then 0 else 1) < 30)) = true := by
  have h1 := noStars_each (env := env) (pos := cpos) hn
  simp only [decide_eq_true_eq] at hl
  have h2 : ∀ l : List (Bool × Sem Value), l.any (·.1) = false → l.all (fun x => !x.1) = true := fun l => by
    induction l with
    | nil => intro _; rfl
    | cons a l ih =>
      intro h
      simp only [List.any_cons, Bool.or_eq_false_iff] at h
      simp only [List.all_cons, h.1, Bool.not_false, Bool.true_and]
      exact ih h.2
  rw [h2 _ h1]
  simp [keywordEach, backToKw]
  simp at hl
  omega
theorem pe_methE {m : Mt} {o : E} {es : Es} {x y : Expr} {ys : List Expr} {apos pos : Pos} (g : Gd tb w k sc ws X) (ho : PE X x (tE w o)) (hs : PA X (y :: ys) (tEs w es)) (hb : attributeBase x (mtN m) X.env (eval x X.env) = eval x X.env) (hl : (apos.endLine == pos.line) = true) (hn : noStars (y :: ys) = true) (hf : decide ((y :: ys).length < 20) = true) : PE X (.Call (.Attribute x (mtN m) apos) (y :: ys) [] pos) (tE w (.meth m o es)) := by
  have hn' := hn
  simp only [noStars, Bool.and_eq_true, Bool.not_eq_true'] at hn'
  refine (pe_bm F.plainAttrs_list (mt_slot m).1 (mt_slot m).2 (mt_ok m) ho hs hb (few_of hn hf) hl (star_of hn'.1) (noStars_each hn'.2)).imp' fun σ H Q h => ?_
  rw [g.K]
  exact meth_read h
theorem pe_methE0 {m : Mt} {o : E} {x : Expr} {apos pos : Pos} (g : Gd tb w k sc ws X) (ho : PE X x (tE w o)) (hb : attributeBase x (mtN m) X.env (eval x X.env) = eval x X.env) (hl : (apos.endLine == pos.line) = true) : PE X (.Call (.Attribute x (mtN m) apos) [] [] pos) (tE w (.meth m o .nil)) := by
  refine (pe_bm0 F.plainAttrs_list (mt_slot m).1 (mt_slot m).2 (mt_ok m) ho hb hl).imp' fun σ H Q h => ?_
  rw [g.K]
  obtain ⟨G, L, P, e, F, R, h⟩ := meth_read h
  refine ⟨G, L, P, e, F, R, h.imp fun x H1 ⟨h1, G, L, P, e, F, R, h2⟩ => ⟨h1, ?_⟩⟩
  exact h2 [] F H1 (RRs.nil R) (Same.refl _) Prs.refl
end
end Fx

set_option Elab.async false
set_option linter.all false
set_option maxRecDepth 100000
/-! Fx: what is walked. -/
namespace Fx
open PySem PySem.Spec PyProof.Rows L2
/-- an iterator that hands out these data, where what is known and what is locked stays -/
def Walk (K : PySem.W.Frag) (L : List Addr) (J : L2.It) (F H : Hp) (ds : List D) : Prop := ∀ (i : Nat) (F2 H2 : Hp), Same F F2 → Same F2 H2 → (∀ a ∈ L, H2 a = H a) →
  (∀ d, ds[i]? = some d → J.go i H2 ∧ ∀ x H', J.yld i H2 x H' → NR K F2 H2 (.fz d) x H') ∧ (ds.length ≤ i → J.stop i H2)
section
variable {K : PySem.W.Frag} {F H : Hp} {L : List Addr}
theorem walk_l {a : Addr} {xs : List V} {ds : List D} (hs : ∀ F2 H2 : Hp, Same F F2 → Same F2 H2 → (∀ a ∈ L, H2 a = H a) → SqL K H2 a xs) (r : RPs K F xs ds) : Walk K L (Itl K a) F H ds := by
  intro i F2 H2 s1 s2 k
  have h1 := hs F2 H2 s1 s2 k
  refine ⟨fun d hd => ?_, fun hi => ⟨xs, h1, by rw [r.len]; exact hi⟩⟩
  obtain ⟨v, hv, rv⟩ := r.get hd
  refine ⟨⟨xs, v, h1, hv⟩, fun x H' y => ?_⟩
  obtain ⟨rfl, y⟩ := y
  have := y xs h1
  rw [hv] at this
  cases this
  exact .val (rv.mn s1)
theorem walk_t {a : Addr} {xs : List V} {ds : List D} (hs : ∀ F2 H2 : Hp, Same F F2 → Same F2 H2 → (∀ a ∈ L, H2 a = H a) → SqT K H2 a xs) (r : RPs K F xs ds) : Walk K L (Itt K a) F H ds := by
  intro i F2 H2 s1 s2 k
  have h1 := hs F2 H2 s1 s2 k
  refine ⟨fun d hd => ?_, fun hi => ⟨xs, h1, by rw [r.len]; exact hi⟩⟩
  obtain ⟨v, hv, rv⟩ := r.get hd
  refine ⟨⟨xs, v, h1, hv⟩, fun x H' y => ?_⟩
  obtain ⟨rfl, y⟩ := y
  have := y xs h1
  rw [hv] at this
  cases this
  exact .val (rv.mn s1)
end
def rpI (w : Wd) (G : Gh) (L P : List Addr) (σ : SSt) : List D × List (Nat × T) → Env → Hp → Hp → L2.It → Prop := fun o e F H J => ∃ L1, Lck w.K G L L1 σ F H o.2 ∧ Rel w.K G L1 P e F σ H ∧ (∀ p ∈ o.2, e[p.1]? = some (.lk p.2)) ∧ Walk w.K L1 J F H o.1
def tIt (w : Wd) (it : It) : TI := fun σ H R => ∃ G L P e F, Rel w.K G L P e F σ H ∧ Po w G L P σ (rpI w G L P σ) F H (evi w.C it e) R
theorem _root_.L2.PI.imp' {X : Cx} {tg x : Expr} {t t' : TI} (h : PI X tg x t) (k : ∀ σ H Q, t' σ H Q → t σ H Q) : PI X tg x t' := ⟨fun pins s σ H Q I hw => h.run pins s σ H Q I (k σ H Q hw)⟩
def iSeq (K : PySem.W.Frag) (tl : TE) : TI := fun σ H R => tl σ H fun x H1 => ∃ a, x = .ref a ∧ (((∃ xs, SqL K H1 a xs) ∧ R (Itl K a) H1) ∨ ((∃ xs, SqT K H1 a xs) ∧ R (Itt K a) H1))
section
variable {tb : Tb} {w : Wd} {k : Nat} {sc ws : Scope} {X : Cx}
theorem pi_seq {tg l : Expr} {tl : TE} (hl : PE X l tl) : PI X tg l (iSeq X.K tl) := by
  refine ⟨fun pins s σ H R I h => ?_⟩
  refine thn (hl.run pins s σ H _ I h) fun v s1 ⟨x, H1, I1, r1, q1⟩ => ?_
  obtain ⟨a, e, q⟩ := q1
  subst e
  cases r1
  have hf : ∀ b ∈ [s1.heap.objs.size], FpOk X pins H1 b := fun b hb => by
    have e : b = s1.heap.objs.size := by simpa using hb
    subst e
    exact I1.fpOk (Nat.le_refl _) (I1.hok.fresh (Nat.le_refl _))
  rcases q with ⟨⟨xs, hq⟩, q⟩ | ⟨⟨xs, hq⟩, q⟩
  · obtain ⟨its, rv, p, hz⟩ := I1.list hq
    refine wpAny_pyIter_list p.isList ?_
    exact ⟨s1.heap.objs.size, [s1.heap.objs.size], _, _, H1, rfl, I1.kept (t' := s1.toks) fun b o e => Heap.get?_push_of_some _ e, turn_list a _, ⟨_, Heap.get?_push_size _ rfl, rfl, rfl⟩, hf, q⟩
  · obtain ⟨its, rv, p, hz⟩ := I1.tuple hq
    refine wpAny_pyIter_tuple (show s1.heap.IsTuple a its.toArray from p) ?_
    exact ⟨s1.heap.objs.size, [s1.heap.objs.size], _, _, H1, rfl, I1.kept (t' := s1.toks) fun b o e => Heap.get?_push_of_some _ e, turn_tuple a _, ⟨_, Heap.get?_push_size _ rfl, rfl, rfl⟩, hf, q⟩
/-- known data that is walked -/
theorem walk_known {K : PySem.W.Frag} {L : List Addr} {F H : Hp} {v : V} {d : D} {ds : List D} (s : Same F H) (r : RP K F v d) (hi : itemsD d = some ds) : ∃ a, v = .ref a ∧ (((∃ xs, SqL K H a xs) ∧ Walk K L (Itl K a) F H ds) ∨ ((∃ xs, SqT K H a xs) ∧ Walk K L (Itt K a) F H ds)) := by
  cases r with
  | @lst a xs es h1 h2 =>
    simp [itemsD] at hi; subst hi
    exact ⟨a, rfl, .inl ⟨⟨xs, SqL.of (s _ _ h1)⟩, walk_l (fun F2 H2 s1 s2 _ => SqL.of (s2 _ _ (s1 _ _ h1))) h2⟩⟩
  | @tup a xs es h1 h2 =>
    simp [itemsD] at hi; subst hi
    exact ⟨a, rfl, .inr ⟨⟨xs, SqT.up s h1.t⟩, walk_t (fun F2 H2 s1 s2 _ => SqT.up (s1.trans s2) h1.t) h2⟩⟩
  | @rol a xs es h1 h2 => simp [itemsD] at hi
  | _ => simp [itemsD] at hi
theorem opened_ok {G : Gh} {L P : List Addr} {σ : SSt} {F H : Hp} {e e' : Env} {r : R} {x : V} {o : List D × List (Nat × T)} (R : RR w.K G L P σ r e F H x) (h : opened r e = some (o, e')) :
    ∃ F' a J, Same F F' ∧ x = .ref a ∧ rpI w G L P σ o e' F' H J ∧ ((J = Itl w.K a ∧ ∃ xs, SqL w.K H a xs) ∨ (J = Itt w.K a ∧ ∃ xs, SqT w.K H a xs)) := by
  have known : ∀ {d : D} {ds : List D} {e1 : Env} {F1 : Hp}, RP w.K F1 x d → Rel w.K G L P e1 F1 σ H → Same F F1 → itemsD d = some ds → o = (ds, []) → e' = e1 → ∃ F' a J, Same F F' ∧ x = .ref a ∧ rpI w G L P σ o e' F' H J ∧ ((J = Itl w.K a ∧ ∃ xs, SqL w.K H a xs) ∨ (J = Itt w.K a ∧ ∃ xs, SqT w.K H a xs)) := fun {d ds e1 F1} rp R1 s hi eo ee => by
    subst eo ee
    obtain ⟨a, rfl, h⟩ := walk_known (L := L) R1.same rp hi
    rcases h with ⟨h1, h2⟩ | ⟨h1, h2⟩
    · exact ⟨F1, a, _, s, rfl, ⟨L, Lck.nil, R1, by simp, h2⟩, .inl ⟨rfl, h1⟩⟩
    · exact ⟨F1, a, _, s, rfl, ⟨L, Lck.nil, R1, by simp, h2⟩, .inr ⟨rfl, h1⟩⟩
  cases r with
  | t t0 =>
    simp only [opened] at h
    cases ei : itemsD t0.er with
    | none => rw [ei] at h; cases h
    | some ds =>
      rw [ei] at h
      simp at h
      obtain ⟨fp, h1, h2⟩ := R
      obtain ⟨F1, s1, r1, R1⟩ := h2.frz h1
      exact known r1 R1 s1 ei h.1.symm h.2.symm
  | p i ks =>
    simp only [opened] at h
    split at h
    · rename_i ts es
      simp at h
      obtain ⟨rfl, rfl⟩ := h
      have hk : kidsR (.p i []) e = some (e.set i (.is (T.own ts).kids)) := by simp [kidsR, es, getP, setP]
      obtain ⟨F1, s1, k1, R1⟩ := RR.kids R (d := .lst (ers ts)) (by simp [Fx.rd, slotT_is es, getP, T.er]) hk
      have hlt : i < e.length := (List.getElem?_eq_some_iff.mp es).1
      obtain ⟨L1, l1, l2, v0, q, l3, l4, l5⟩ := R1.lck (i := i) (t := (T.own ts).kids) (List.getElem?_set_self hlt)
      rw [List.set_set] at l2
      obtain ⟨a, xs, rfl, q1, q2⟩ := k1
      obtain ⟨_, v1, m1, m2⟩ := R
      cases m2
      rw [l3] at m1
      cases m1
      refine ⟨F1, a, Itl w.K a, s1, rfl, ⟨L1, l1, l2, fun p hp => ?_, walk_l (xs := xs) (fun F2 H2 s2 s3 k => SqL.of ?_) q2⟩, .inl ⟨rfl, xs, SqL.of q1⟩⟩
      · simp at hp; subst hp
        exact List.getElem?_set_self hlt
      · rw [k a (l5 a ?_)]; exact q1
        simp only [T.kids] at l4
        cases l4 with
        | own _ _ _ => exact List.mem_cons_self
    · rename_i ts es
      split at h
      · rename_i ha
        simp at h
        obtain ⟨rfl, rfl⟩ := h
        obtain ⟨h1, v0, h2, h3⟩ := R
        cases h3
        obtain ⟨fp, g1, g2, g4, g3⟩ := h1.env
        obtain ⟨o', A, q, B, a1, rfl, ⟨v', rfl, a3, a4⟩, a5⟩ := g1.at es
        rw [h2] at a1; cases a1
        cases a3 with
        | @own a xs _ fps k1 k2 hs =>
          obtain ⟨rfl, q⟩ := hs.fzs ha
          exact ⟨F, a, Itl w.K a, Same.refl F, rfl, ⟨L, Lck.nil, h1, by simp, walk_l (xs := xs) (fun F2 H2 s2 s3 k => SqL.of (by rw [k a (a4 a List.mem_cons_self)]; exact k2)) q⟩, .inl ⟨rfl, xs, SqL.of k2⟩⟩
      · cases h
    · rename_i ks1 ks0 sl1 hn1 hn2
      cases em : mvF (.p i ks1) e with
      | none => rw [em] at h; cases h
      | some p =>
        obtain ⟨d, e1⟩ := p
        rw [em] at h
        simp only at h
        cases ei : itemsD d with
        | none => rw [ei] at h; cases h
        | some ds =>
          rw [ei] at h
          simp at h
          obtain ⟨F1, s1, r1, R1⟩ := RR.mvF R em
          exact known r1 R1 s1 ei h.1.symm h.2.symm
theorem pi_eE {a : E} {tg x : Expr} (g : Gd tb w k sc ws X) (ha : PE X x (tE w a)) : PI X tg x (tIt w (.e a)) := by
  refine (pi_seq ha).imp' fun σ H R h => ?_
  obtain ⟨G, L, P, e, F, R0, h⟩ := h
  simp only [evi] at h
  refine ⟨G, L, P, e, F, R0, Po.bnd h fun r e1 v F1 H1 _ R1 s1 p1 h1 => ?_⟩
  have R1 : RR w.K G L P σ r e1 F1 H1 v := R1
  cases eo : opened r e1 with
  | none => rw [eo] at h1; exact h1.elim
  | some p =>
    obtain ⟨o, e2⟩ := p
    rw [eo] at h1
    obtain ⟨F2, b, J, s2, rfl, hJ, hc⟩ := opened_ok R1 eo
    have q := h1 J F2 H1 hJ s2 Prs.refl
    rw [g.K]
    rcases hc with ⟨rfl, xs, hx⟩ | ⟨rfl, xs, hx⟩
    · exact ⟨b, rfl, .inl ⟨⟨xs, hx⟩, q⟩⟩
    · exact ⟨b, rfl, .inr ⟨⟨xs, hx⟩, q⟩⟩
theorem rngL_get {lo hi : Int} {i : Nat} {d : D} (h : (rngL lo hi)[i]? = some d) : i < (hi - lo).toNat ∧ d = .int (lo + i) := by
  unfold rngL at h
  rw [List.getElem?_map] at h
  cases e : (List.range (hi - lo).toNat)[i]? with
  | none => rw [e] at h; cases h
  | some j =>
    rw [e] at h
    have := List.getElem?_eq_some_iff.mp e
    obtain ⟨h1, h2⟩ := this
    simp at h1 h2
    subst h2
    simp at h
    exact ⟨by omega, h.symm⟩
theorem walk_r {K : PySem.W.Frag} {L : List Addr} {F H : Hp} {lo hi : Int} : Walk K L (Itr lo (hi - lo).toNat) F H (rngL lo hi) := by
  intro i F2 H2 s1 s2 k
  refine ⟨fun d hd => ?_, fun h => ?_⟩
  · obtain ⟨h1, rfl⟩ := rngL_get hd
    refine ⟨h1, fun x H' y => ?_⟩
    obtain ⟨rfl, rfl⟩ := y
    exact .val (.int _)
  · show (hi - lo).toNat ≤ i
    rw [rngL, List.length_map, List.length_range] at h
    exact h
theorem small62_of {i : Int} (h : small62 i = true) : -(2 ^ 62) ≤ i ∧ i < 2 ^ 62 := by
  unfold small62 at h
  simpa [Bool.and_eq_true] using h
theorem tEs1 {a : E} {σ : SSt} {H : Hp} {G : Gh} {L P : List Addr} {e : Env} {F : Hp} {α' β' : Type} {rep' : α' → Env → Hp → Hp → β' → Prop} {f : R → Env → Out α'} {Q : β' → Hp → Prop} {Q' : List V → Hp → Prop} (R : Rel w.K G L P e F σ H)
    (h : Po w G L P σ rep' F H ((ev w.C a e).bnd f) Q) (k : ∀ r e' v F' H', RR w.K G L P σ r e' F' H' v → Same F F' → Prs P L H H' → Po w G L P σ rep' F' H' (f r e') Q → Q' [v] H') : tCons (tE w a) tNil σ H Q' :=
  ⟨G, L, P, e, F, R, Po.bnd h fun r e1 v F1 H1 _ R1 s1 p1 h1 => k r e1 v F1 H1 R1 s1 p1 h1⟩
theorem pi_rng1E {a : E} {tg x : Expr} {p pos : Pos} (g : Gd tb w k sc ws X) (hg : gloB sc ("range" : Str) = true) (hn : isStar x = false) (ha : PE X x (tE w a)) : PI X tg (.Call (.Name "range" p) [x] [] pos) (tIt w (.rng1 a)) := by
  refine (pi_range1 (glo_of g hg) (g.blt "range" (by decide)) (pa_cons ha pa_nil (star_of hn)) (star_of hn)).imp' fun σ H R h => ?_
  obtain ⟨G, L, P, e, F, R0, h⟩ := h
  simp only [evi] at h
  refine tEs1 R0 h fun r e1 v F1 H1 R1 s1 p1 h1 => ?_
  split at h1
  · rename_i n er
    split at h1
    · rename_i hs
      cases R1.rd er
      obtain ⟨b1, b2⟩ := small62_of hs
      exact ⟨n, rfl, b1, b2, h1 (Itr 0 n.toNat) F1 H1 ⟨L, Lck.nil, R1.rel', by simp, by simpa using (walk_r (lo := 0) (hi := n))⟩ (Same.refl _) Prs.refl⟩
    · exact h1.elim
  · exact h1.elim
theorem pi_rng2E {a b : E} {tg x y : Expr} {p pos : Pos} (g : Gd tb w k sc ws X) (hg : gloB sc ("range" : Str) = true) (hn : isStar x = false) (hn2 : isStar y = false) (ha : PE X x (tE w a)) (hb : PE X y (tE w b)) : PI X tg (.Call (.Name "range" p) [x, y] [] pos) (tIt w (.rng2 a b)) := by
  refine (pi_range2 (glo_of g hg) (g.blt "range" (by decide)) (pa_cons ha (pa_cons hb pa_nil (star_of hn2)) (star_of hn)) (by rw [star_of hn, star_of hn2]; rfl) (star_of hn2)).imp' fun σ H R h => ?_
  obtain ⟨G, L, P, e, F, R0, h⟩ := h
  simp only [evi] at h
  refine Po.next (RRs.nil R0) h fun l e1 v F1 H1 R1 s1 p1 h1 => ?_
  refine Po.next R1 h1 fun r e2 u F2 H2 R2 s2 p2 h2 => ?_
  have R2 : RRs w.K G L P σ [l, r] e2 F2 H2 [v, u] := R2
  show ∃ i j : Int, _ ∧ _ ∧ R (Itr i (j - i).toNat) H2
  split at h2
  · rename_i m n er er2
    split at h2
    · rename_i hs
      simp only [Bool.and_eq_true] at hs
      have rp := R2.rds (ds := [.int m, .int n]) (by simp [rds, er, er2])
      cases rp with
      | cons r1 r2 => cases r2 with
        | cons r2 _ =>
          cases r1; cases r2
          obtain ⟨b1, b2⟩ := small62_of hs.1
          obtain ⟨b3, b4⟩ := small62_of hs.2
          obtain ⟨fps, _, R3⟩ := R2
          exact ⟨m, n, rfl, ⟨b1, b2, b3, b4⟩, h2 (Itr m (n - m).toNat) F2 H2 ⟨L, Lck.nil, R3.drop, by simp, walk_r⟩ (Same.refl _) Prs.refl⟩
    · exact h2.elim
  · exact h2.elim
theorem zipL_get {xs ys : List D} {i : Nat} {d : D} (h : (zipL xs ys)[i]? = some d) : ∃ x y, xs[i]? = some x ∧ ys[i]? = some y ∧ d = .tup [x, y] := by
  unfold zipL at h
  rw [List.getElem?_map] at h
  cases e : (xs.zip ys)[i]? with
  | none => rw [e] at h; cases h
  | some p =>
    rw [e] at h
    simp at h
    obtain ⟨h1, h2⟩ := List.getElem?_zip_eq_some.mp e
    exact ⟨p.1, p.2, h1, h2, h.symm⟩
theorem pi_zipE {a b : E} {x y : Expr} {elts : List Expr} {kk : Nat} {p pos tpos : Pos} (g : Gd tb w k sc ws X) (hg : gloB sc ("zip" : Str) = true) (hn : isStar x = false) (hn2 : isStar y = false) (ha : PE X x (tE w a)) (hb : PE X y (tE w b)) : PI X (.Tuple elts kk tpos) (.Call (.Name "zip" p) [x, y] [] pos) (tIt w (.zip a b)) := by
  refine (RZ.pi_zipA (glo_of g hg) (g.blt "zip" (by decide)) (pa_cons ha (pa_cons hb pa_nil (star_of hn2)) (star_of hn)) (star_of hn) (by rw [star_of hn2]; rfl)).imp' fun σ H R h => ?_
  obtain ⟨G, L, P, e, F, R0, h⟩ := h
  simp only [evi] at h
  refine Po.next (RRs.nil R0) h fun l e1 v F1 H1 R1 s1 p1 h1 => ?_
  refine Po.next R1 h1 fun r e2 u F2 H2 R2 s2 p2 h2 => ?_
  have R2 : RRs w.K G L P σ [l, r] e2 F2 H2 [v, u] := R2
  show ∃ a b xs ys, _ ∧ _
  rw [g.K]
  split at h2
  · rename_i xs ys e3 em
    obtain ⟨F3, s3, r3, R3⟩ := R2.mvFs em
    cases r3 with
    | cons r1 r2 => cases r2 with
      | cons r2 _ =>
        cases r1 with
        | @lst a1 vs1 _ k1 k2 => cases r2 with
          | @lst a2 vs2 _ m1 m2 =>
            refine ⟨a1, a2, vs1, vs2, rfl, .inl ⟨SqL.of (R3.same _ _ k1), SqL.of (R3.same _ _ m1), h2 (Itz w.K a1 a2) F3 H2 ⟨L, Lck.nil, R3, by simp, ?_⟩ s3 Prs.refl⟩⟩
            intro i F4 H4 s4 s5 _
            have q1 : SqL w.K H4 a1 vs1 := SqL.of (s5 _ _ (s4 _ _ k1))
            have q2 : SqL w.K H4 a2 vs2 := SqL.of (s5 _ _ (s4 _ _ m1))
            refine ⟨fun d hd => ?_, fun hi => ⟨vs1, vs2, q1, q2, ?_⟩⟩
            · obtain ⟨x', y', hx, hy, rfl⟩ := zipL_get hd
              obtain ⟨vx, ex, rx⟩ := k2.get hx
              obtain ⟨vy, ey, ry⟩ := m2.get hy
              refine ⟨⟨vs1, vs2, vx, vy, q1, q2, ex, ey⟩, fun v H' yv => ?_⟩
              obtain ⟨T0, x0, y0, rfl, hT, rfl, f1, f2⟩ := yv
              have g1 := f1 vs1 q1
              have g2 := f2 vs2 q2
              rw [ex] at g1; cases g1
              rw [ey] at g2; cases g2
              exact .tup hT (.cons (rx.mn s4) (.cons (ry.mn s4) .nil))
            · rw [k2.len, m2.len]; simp [zipL] at hi; omega
  · rename_i xs ys e3 em
    obtain ⟨F3, s3, r3, R3⟩ := R2.mvFs em
    cases r3 with
    | cons r1 r2 => cases r2 with
      | cons r2 _ =>
        cases r1 with
        | @tup a1 vs1 _ k1 k2 => cases r2 with
          | @tup a2 vs2 _ m1 m2 =>
            refine ⟨a1, a2, vs1, vs2, rfl, .inr ⟨SqT.up R3.same k1.t, SqT.up R3.same m1.t, h2 (RZ.ItzT w.K a1 a2) F3 H2 ⟨L, Lck.nil, R3, by simp, ?_⟩ s3 Prs.refl⟩⟩
            intro i F4 H4 s4 s5 _
            have q1 : SqT w.K H4 a1 vs1 := SqT.up (s4.trans s5) k1.t
            have q2 : SqT w.K H4 a2 vs2 := SqT.up (s4.trans s5) m1.t
            refine ⟨fun d hd => ?_, fun hi => ⟨vs1, vs2, q1, q2, ?_⟩⟩
            · obtain ⟨x', y', hx, hy, rfl⟩ := zipL_get hd
              obtain ⟨vx, ex, rx⟩ := k2.get hx
              obtain ⟨vy, ey, ry⟩ := m2.get hy
              refine ⟨⟨vs1, vs2, vx, vy, q1, q2, ex, ey⟩, fun v H' yv => ?_⟩
              obtain ⟨T0, x0, y0, rfl, hT, rfl, f1, f2⟩ := yv
              have g1 := f1 vs1 q1
              have g2 := f2 vs2 q2
              rw [ex] at g1; cases g1
              rw [ey] at g2; cases g2
              exact .tup hT (.cons (rx.mn s4) (.cons (ry.mn s4) .nil))
            · rw [k2.len, m2.len]; simp [zipL] at hi; omega
  · exact h2.elim
end
end Fx

set_option Elab.async false
set_option linter.all false
set_option maxRecDepth 100000
/-! Fx: enumerate of a list or a tuple. -/
namespace PySem
open Sem (wp)
open Builtin Builtin.Str
set_option maxHeartbeats 1000000 in
theorem fx_enumerate_newT (l : Addr) (items : Array Value) (n : Nat) (dct : Option Addr) (sl : Array (Option Value)) :
    Meets (Builtin.«enumerate.__new__» ⟨[.type "enumerate", .ref l], []⟩) (fun _ R s => s.heap.get? l = some ⟨.type "tuple", dct, .seq items n, sl⟩ ∧
      R (.ok (.ret (.ref (s.heap.push { cls := .type "tuple_iterator", data := .fields #[.ref l, .int 0 0] }).objs.size)))
        { s with heap := (s.heap.push { cls := .type "tuple_iterator", data := .fields #[.ref l, .int 0 0] }).push { cls := .type "enumerate", data := .fields #[.none, .bool false, .ref s.heap.objs.size, rawInt 0, .none, .none] } }) :=
  .of_wp fun prog w A R s h => by
    obtain ⟨hp, g, d, tk, os⟩ := s
    obtain ⟨hl, h⟩ := h
    have hL : (hp : Heap).IsTuple l items := ⟨_, hl, rfl, n, rfl⟩
    have hsub := sub_enumerate
    wp_walk
    refine wpAny_stack_any fun st => wpAny_pure ?_
    split
    · rename_i c _ _ _ _ _
      cases (c == Value.type "enumerate")
      · wp_walk using wpAny_loadPart' hl, wpAny_pyIter_tuple hL
        exact ⟨_, rfl, h⟩
      · wp_walk using wpAny_loadPart' hl, wpAny_pyIter_tuple hL
        exact ⟨_, rfl, h⟩
    · wp_walk using wpAny_loadPart' hl, wpAny_pyIter_tuple hL
      exact ⟨_, rfl, h⟩
section
variable {prog : Program} {w : World} {A : Around} {E : Value → Shared → Prop} {s : Shared}
theorem fx_enumerate_tuple {l : Addr} {items : Array Value} {Q : Value → Shared → Prop} (hL : s.heap.IsTuple l items)
    (h : ∀ h', IsEnum h' (s.heap.objs.size + 1) s.heap.objs.size 0 .none → h'.IsTupleIter s.heap.objs.size l 0 → h'.objs.size = s.heap.objs.size + 2 →
      (∀ b o, s.heap.get? b = some o → h'.get? b = some o) → Q (.ref (s.heap.objs.size + 1)) { s with heap := h' }) :
    wpAny (model prog w) A (call (.type "enumerate") [.ref l]) Q E s := by
  obtain ⟨⟨c, dct, dt, sl⟩, hl, hc, n, hd⟩ := hL
  replace hc : c = .type "tuple" := hc
  replace hd : dt = .seq items n := hd
  subst hc hd
  refine callType_new F.called_enumerate (by decide) (F.typeCall_enumerate_1 _) (F.newCall_enumerate_1 _) (fun obj => F.args_object_init_2 obj _) F.entry_enumerate_new
    (fx_enumerate_newT l items n dct sl) ⟨hl, ?_⟩
  have hz : (s.heap.push { cls := .type "tuple_iterator", data := .fields #[.ref l, .int 0 0] }).objs.size = s.heap.objs.size + 1 := Heap.size_push ..
  show _ ∧ _
  rw [hz]
  have he : IsEnum ((s.heap.push { cls := .type "tuple_iterator", data := .fields #[.ref l, .int 0 0] }).push
      { cls := .type "enumerate", data := .fields #[.none, .bool false, .ref s.heap.objs.size, rawInt 0, .none, .none] }) (s.heap.objs.size + 1) s.heap.objs.size 0 .none := by
    have := Heap.get?_push_size (s.heap.push { cls := .type "tuple_iterator", data := .fields #[.ref l, .int 0 0] })
      (o := { cls := .type "enumerate", data := .fields #[.none, .bool false, .ref s.heap.objs.size, rawInt 0, .none, .none] }) rfl
    rw [hz] at this; exact this
  refine ⟨⟨_, he, rfl⟩, h _ he ⟨_, Heap.get?_push_of_some _ (Heap.get?_push_size _ rfl), rfl, rfl⟩ (by rw [Heap.size_push, hz]) fun b o x => Heap.get?_push_of_some _ (Heap.get?_push_of_some _ x)⟩
theorem fx_enum_endT {e it l : Addr} {i : Nat} {items : Array Value} {old : Value} {Q : Option Value → Shared → Prop} (hh : A.handled = none)
    (he : IsEnum s.heap e it i old) (hit : s.heap.IsTupleIter it l i) (hl : s.heap.IsTuple l items) (hx : items[i]? = none)
    (hQ : ∀ h', Heap.ExtBut it s.heap h' → Q none { s with heap := h' }) : wpAny (model prog w) A (pyNext (.ref e)) Q E s := by
  have hT : s.TypeIs (.ref e) "enumerate" := ⟨_, he, rfl⟩
  unfold pyNext
  refine wpAny_bind (wpAny_attempt (wpAny_callSpecial?_slot (name := Str.ofString "__next__") hT F.slot_enumerate_next
    (wpAny_call_entry F.slot_enumerate_next hT F.entry_enumerate_next ?_ (F.args_enumerate_next_1 _))))
  show wpAny _ _ (field (.ref e) 2 >>= _) _ _ _
  refine wpAny_bind (wpAny_field he rfl (x := .ref it) rfl ?_)
  refine wpAny_bind (wpAny_nextOf_tuple_end hh hit hl hx fun h' x he' hx' => ?_)
  obtain ⟨o, ho, hc⟩ := hx'
  refine wpAny_bind (wpAny_isInstance (T := "StopIteration") (b := true) ⟨o, ho, hc⟩ isSubtype_stop ?_)
  exact wpAny_pure (hQ _ he')
end
end PySem
namespace Fx
open PySem PySem.Spec PyProof.Rows L2
/-- the tuple at a, each item in a new pair -/
def IteT (K : PySem.W.Frag) (a : Addr) : L2.It :=
  ⟨fun i H => ∃ (xs : List V) (x : V), SqT K H a xs ∧ xs[i]? = some x, fun i H v H' => ∃ T x, v = .ref T ∧ H T = none ∧ H' = upd H T (.tup [.int (i : Nat), x]) ∧ ∀ xs, SqT K H a xs → xs[i]? = some x, fun i H => ∃ xs : List V, SqT K H a xs ∧ xs.length ≤ i⟩
theorem turn_enumT {P : Program} {w : World} {K : PySem.W.Frag} {elts : List Expr} {kk : Nat} {tpos : Pos} (a e it : Addr) (hae : a ≠ e) (hai : a ≠ it) :
    Turn P w K (.Tuple elts kk tpos) (IteT K a) [e, it] e (fun i h => (∃ old, IsEnum h e it ((i : Nat) : Int) old) ∧ h.IsTupleIter it a i ∧ e ≠ it) where
  mem := by simp
  obj := fun i h st b hb => by
    obtain ⟨⟨old, he⟩, ⟨o, ho, hc, hd⟩, _⟩ := st
    have e' : b = e ∨ b = it := by simpa using hb
    rcases e' with z | z
    · rw [z]; exact ⟨_, he, fun v q => nomatch q⟩
    · rw [z]; exact ⟨o, ho, fun v q => by rw [hd] at q; cases q⟩
  keep := fun i h h' st k => let ⟨⟨old, he⟩, hi, hne⟩ := st; ⟨⟨old, k e (by simp) _ he⟩, hi.at fun o q => k it (by simp) o q, hne⟩
  item := by
    intro X hP hw hK hc i pins s σ H E I hf st hg
    subst hP hw hK
    obtain ⟨⟨old, he⟩, hit, hne⟩ := st
    obtain ⟨xs, x, hq, hx⟩ := hg
    obtain ⟨its, rv, p, hz⟩ := I.tuple hq
    obtain ⟨u, hu, ru⟩ := rv.get hx
    have hel : e < s.heap.objs.size := Heap.lt_size he
    have hil : it < s.heap.objs.size := by obtain ⟨_, q, _⟩ := hit; exact Heap.lt_size q
    have hlt : i < its.toArray.size := by have := (List.getElem?_eq_some_iff.mp hu).1; simpa using this
    have pT : s.heap.IsTuple a its.toArray := p
    refine wpAny_pyNext_enum_itemD (Draws.tuple (prog := X.prog) (w := X.w) (A := X.A.in1) (I.ok.hd hc) it a hai its.toArray) he ⟨hit, pT⟩ hlt hne (by simp [hne, hae.symm]) fun y h' tk hy ho hst hT hsz hk => ?_
    have ey : y = u := by
      have : its.toArray[i]? = some u := by simpa using hu
      rw [this] at hy; cases hy; rfl
    subst ey
    obtain ⟨hit', _⟩ := hst
    refine ⟨_, rfl, wpAny_letOwnedTupleGo_enum (s := { s with heap := h', toks := tk + 1 }) ho fun h'' he' sb => ?_⟩
    have hT2 : h''.get? s.heap.objs.size = some { cls := .type "tuple", data := .seq #[.int i tk, y] } := (sb.2 _ (Nat.ne_of_gt hel)).trans hT
    have new : ObjOk X.prog X.w (upd H s.heap.objs.size (.tup [.int (i : Nat), x])) h'' s.heap.objs.size (.tup [.int (i : Nat), x]) :=
      ⟨by show 2 ≤ sizeLine; decide, [.int i tk, y], .cons ⟨_, rfl⟩ (.cons ru .nil), ⟨_, hT2, rfl, _, rfl⟩⟩
    have I1 : Inv X pins σ (upd H s.heap.objs.size (.tup [.int (i : Nat), x])) { s with heap := h'', toks := tk + 1 } :=
      I.turnedNew (ch := [e, it]) (fun b ob hb q => (sb.2 b (fun z => hb (by simp [z]))).trans (hk b ob (fun z => hb (by simp [z])) (fun z => hb (by simp [z])) q)) hf (Nat.le_refl _) new
    refine ⟨.ref s.heap.objs.size, _, I1, rfl, ⟨_, x, rfl, I.hok.fresh (Nat.le_refl _), rfl, fun ys hy => by rw [I.tuple_inj hy hq]; exact hx⟩, ⟨⟨y, ?_⟩, hit'.at fun o q => (sb.2 it (Ne.symm hne)).trans q, hne⟩, fun b hb => ?_⟩
    · have e1 : ((i + 1 : Nat) : Int) = (i : Int) + 1 := by omega
      rw [e1]; exact he'
    · have hb' : b < s.heap.objs.size := by
        have e' : b = e ∨ b = it := by simpa using hb
        rcases e' with z | z
        · rw [z]; exact hel
        · rw [z]; exact hil
      rw [upd_ne (Nat.ne_of_lt hb')]
      exact (hf b hb).1
  done := by
    intro X hP hw hK hc i pins s σ H E I hf st hg
    subst hP hw hK
    obtain ⟨⟨old, he⟩, hit, hne⟩ := st
    obtain ⟨xs, hq, hx⟩ := hg
    obtain ⟨its, rv, p, hz⟩ := I.tuple hq
    obtain ⟨f0, f1, f2, f3, f4, f5⟩ := hf it (by simp)
    have hl := rv.length
    have pT : s.heap.IsTuple a its.toArray := p
    exact fx_enum_endT (I.ok.hd hc) he hit pT (by simp; omega) fun h' eb => ⟨rfl, I.turned (t' := s.toks) (fun b o hb q => eb b o hb q) f0 f1 f3 f4 f5⟩
  self := fun A i s Q E st h => let ⟨⟨_, he⟩, _⟩ := st; wpAny_pyIter_enum he h
def iEnumA (K : PySem.W.Frag) (ta : TA) : TI := fun σ H R => ta σ H fun vs H1 => ∃ a, vs = [.ref a] ∧ (((∃ xs, SqL K H1 a xs) ∧ R (Ite K a) H1) ∨ ((∃ xs, SqT K H1 a xs) ∧ R (IteT K a) H1))
theorem pi_enumA {X : Cx} {e : Expr} {ta : TA} {p pos tpos : Pos} {elts : List Expr} {kk : Nat} (hg : Gl X "enumerate") (hm : X.mg "enumerate" = none) (ha : PA X [e] ta) (hs : starEach [e] X.env = [(false, eval e X.env)] := by rfl) :
    PI X (.Tuple elts kk tpos) (.Call (.Name "enumerate" p) [e] [] pos) (iEnumA X.K ta) := by
  refine ⟨fun pins s σ H R I h => ?_⟩
  refine Call_ (ld_blt I hg hm boot_enumerate (PyProof.Rows.callWith_type1 (thn (ha.run pos pins s σ H _ I h) fun us s1 ⟨vs, H1, I1, r1, q1⟩ => ?_) hs rfl))
  obtain ⟨a, ex, q⟩ := q1
  subst ex
  cases r1 with
  | cons r rr =>
    cases rr
    cases r
    have fok : ∀ b ∈ [s1.heap.objs.size + 1, s1.heap.objs.size], FpOk X pins H1 b := fun b hb => by
      have e' : b = s1.heap.objs.size + 1 ∨ b = s1.heap.objs.size := by simpa using hb
      have hle : s1.heap.objs.size ≤ b := by
        rcases e' with z | z
        · rw [z]; exact Nat.le_add_right _ _
        · rw [z]; exact Nat.le_refl _
      exact I1.fpOk hle (I1.hok.fresh hle)
    rcases q with ⟨⟨xs, hq⟩, q⟩ | ⟨⟨xs, hq⟩, q⟩
    · obtain ⟨its, rv, p', hz⟩ := I1.list hq
      refine call_enumerate_list p'.isList fun h' he hit hsz hk => wpAny_pyIter_enum he ?_
      have I2 : Inv X pins σ H1 { s1 with heap := h' } := I1.kept (t' := s1.toks) hk
      exact ⟨s1.heap.objs.size + 1, [s1.heap.objs.size + 1, s1.heap.objs.size], _, _, H1, rfl, I2, turn_enum a (s1.heap.objs.size + 1) s1.heap.objs.size, ⟨⟨.none, he⟩, hit, Nat.succ_ne_self _⟩, fok, q⟩
    · obtain ⟨its, rv, p', hz⟩ := I1.tuple hq
      have hlt : a < s1.heap.objs.size := by obtain ⟨o, e1, _⟩ := p'; exact Heap.lt_size e1
      refine fx_enumerate_tuple (show s1.heap.IsTuple a its.toArray from p') fun h' he hit hsz hk => wpAny_pyIter_enum he ?_
      have I2 : Inv X pins σ H1 { s1 with heap := h' } := I1.kept (t' := s1.toks) hk
      exact ⟨s1.heap.objs.size + 1, [s1.heap.objs.size + 1, s1.heap.objs.size], _, _, H1, rfl, I2, turn_enumT a (s1.heap.objs.size + 1) s1.heap.objs.size (Nat.ne_of_lt (Nat.lt_succ_of_lt hlt)) (Nat.ne_of_lt hlt), ⟨⟨.none, he⟩, hit, Nat.succ_ne_self _⟩, fok, q⟩
theorem enumL_get {ds : List D} {i : Nat} {d : D} (h : (enumL ds)[i]? = some d) : ∃ x, ds[i]? = some x ∧ d = .tup [.int i, x] := by
  unfold enumL at h
  rw [List.getElem?_map] at h
  cases e : ds.zipIdx[i]? with
  | none => rw [e] at h; cases h
  | some p =>
    rw [e] at h
    simp at h
    rw [List.getElem?_zipIdx] at e
    cases e2 : ds[i]? with
    | none => rw [e2] at e; cases e
    | some x =>
      rw [e2] at e
      simp at e
      subst e
      exact ⟨x, rfl, h.symm⟩
section
variable {tb : Tb} {w : Wd} {k : Nat} {sc ws : Scope} {X : Cx}
theorem pi_enumE {a : E} {x : Expr} {elts : List Expr} {kk : Nat} {p pos tpos : Pos} (g : Gd tb w k sc ws X) (hg : gloB sc ("enumerate" : Str) = true) (hn : isStar x = false) (ha : PE X x (tE w a)) : PI X (.Tuple elts kk tpos) (.Call (.Name "enumerate" p) [x] [] pos) (tIt w (.enum a)) := by
  refine (pi_enumA (glo_of g hg) (g.blt "enumerate" (by decide)) (pa_cons ha pa_nil (star_of hn)) (star_of hn)).imp' fun σ H R h => ?_
  obtain ⟨G, L, P, e, F, R0, h⟩ := h
  simp only [evi] at h
  refine tEs1 R0 h fun r e1 v F1 H1 R1 s1 p1 h1 => ?_
  rw [g.K]
  cases em : mvF r e1 with
  | none => rw [em] at h1; exact h1.elim
  | some p =>
    obtain ⟨d, e2⟩ := p
    rw [em] at h1
    simp only at h1
    cases ei : itemsD d with
    | none => rw [ei] at h1; exact h1.elim
    | some ds =>
      rw [ei] at h1
      obtain ⟨F2, s2, r2, R2⟩ := R1.mvF em
      cases r2 with
      | @lst a vs es k1 k2 =>
        simp [itemsD] at ei; subst ei
        refine ⟨a, rfl, .inl ⟨⟨vs, SqL.of (R2.same _ _ k1)⟩, h1 (Ite w.K a) F2 H1 ⟨L, Lck.nil, R2, by simp, ?_⟩ s2 Prs.refl⟩⟩
        intro i F4 H4 s4 s5 _
        have q1 : SqL w.K H4 a vs := SqL.of (s5 _ _ (s4 _ _ k1))
        refine ⟨fun d hd => ?_, fun hi => ⟨vs, q1, by rw [k2.len]; simpa [enumL] using hi⟩⟩
        obtain ⟨x', hx, rfl⟩ := enumL_get hd
        obtain ⟨vx, ex, rx⟩ := k2.get hx
        refine ⟨⟨vs, vx, q1, ex⟩, fun v H' yv => ?_⟩
        obtain ⟨T0, x0, rfl, hT, rfl, f1⟩ := yv
        have g1 := f1 vs q1
        rw [ex] at g1; cases g1
        exact .tup hT (.cons (.int _) (.cons (rx.mn s4) .nil))
      | @tup a vs es k1 k2 =>
        simp [itemsD] at ei; subst ei
        refine ⟨a, rfl, .inr ⟨⟨vs, SqT.up R2.same k1.t⟩, h1 (IteT w.K a) F2 H1 ⟨L, Lck.nil, R2, by simp, ?_⟩ s2 Prs.refl⟩⟩
        intro i F4 H4 s4 s5 _
        have q1 : SqT w.K H4 a vs := SqT.up (s4.trans s5) k1.t
        refine ⟨fun d hd => ?_, fun hi => ⟨vs, q1, by rw [k2.len]; simpa [enumL] using hi⟩⟩
        obtain ⟨x', hx, rfl⟩ := enumL_get hd
        obtain ⟨vx, ex, rx⟩ := k2.get hx
        refine ⟨⟨vs, vx, q1, ex⟩, fun v H' yv => ?_⟩
        obtain ⟨T0, x0, rfl, hT, rfl, f1⟩ := yv
        have g1 := f1 vs q1
        rw [ex] at g1; cases g1
        exact .tup hT (.cons (.int _) (.cons (rx.mn s4) .nil))
      | _ => simp [itemsD] at ei
end
end Fx

set_option Elab.async false
set_option linter.all false
set_option maxRecDepth 100000
/-! Fx: targets. -/
namespace Fx
open PySem PySem.Spec PyProof.Rows L2
def Tg.ix : Tg → List Nat
  | .n i => [i]
  | .t2 a b => a.ix ++ b.ix
  | .t3 a b c => a.ix ++ (b.ix ++ c.ix)
def stoB (ws : Scope) (x : Str) : Bool := match ws.names.lookup x with
  | some .local => true
  | some .cell => true
  | _ => false
theorem sto_of {ws : Scope} {x : Str} (h : stoB ws x = true) : ws.names.lookup x = some .local ∨ ws.names.lookup x = some .cell := by
  unfold stoB at h
  split at h
  · rename_i q; exact .inl q
  · rename_i q; exact .inr q
  · cases h
def tgOk (tb : Tb) (ws : Scope) : Tg → Expr → Bool
  | .n i, .Name x _ => decide (tb.N[i]? = some x) && (stoB ws x && !tb.kp.contains i)
  | .t2 a b, .Tuple [x, y] _ _ => tgOk tb ws a x && tgOk tb ws b y
  | .t3 a b c, .Tuple [x, y, z] _ _ => tgOk tb ws a x && (tgOk tb ws b y && tgOk tb ws c z)
  | _, _ => false
def tGt (w : Wd) (tg : Tg) : TG := fun v σ H Q => ∃ G L P e F t fp e', RT w.K F H v t fp ∧ Rel w.K G L (fp ++ P) e F σ H ∧ asgT tg t e = some e' ∧
  ∀ σ', Rel w.K G L P e' F σ' H → (∀ i, i ∉ tg.ix → σ'[i]? = σ[i]?) → σ'.length = σ.length → Q σ' H
theorem _root_.L2.PG.imp' {X : Cx} {tg : Expr} {t t' : TG} (h : PG X tg t) (k : ∀ v σ H Q, t' v σ H Q → t v σ H Q) : PG X tg t' := ⟨fun pins s σ H v u Q I r hw => h.run pins s σ H v u Q I r (k v σ H Q hw)⟩
theorem _root_.L2.PG.or {X : Cx} {tg : Expr} {t t' : TG} (h : PG X tg t) (h' : PG X tg t') : PG X tg (fun v σ H Q => t v σ H Q ∨ t' v σ H Q) := ⟨fun pins s σ H v u Q I r hw => hw.elim (h.run pins s σ H v u Q I r) (h'.run pins s σ H v u Q I r)⟩
section
variable {tb : Tb} {w : Wd} {k : Nat} {sc ws : Scope} {X : Cx}
theorem tgOk_kp : ∀ {tg : Tg} {y : Expr}, tgOk tb ws tg y = true → ∀ i ∈ tg.ix, i ∉ tb.kp
  | .n i, y, h, j, hj => by
    cases y <;> simp [tgOk] at h
    simp [Tg.ix] at hj
    subst hj
    exact h.2.2
  | .t2 a b, y, h, j, hj => by
    match y, h with
    | .Tuple [y1, y2] kk pos, h =>
      simp only [tgOk, Bool.and_eq_true] at h
      simp only [Tg.ix, List.mem_append] at hj
      exact hj.elim (tgOk_kp h.1 j) (tgOk_kp h.2 j)
  | .t3 a b c, y, h, j, hj => by
    match y, h with
    | .Tuple [y1, y2, y3] kk pos, h =>
      simp only [tgOk, Bool.and_eq_true] at h
      simp only [Tg.ix, List.mem_append] at hj
      exact hj.elim (tgOk_kp h.1 j) fun hj => hj.elim (tgOk_kp h.2.1 j) (tgOk_kp h.2.2 j)
theorem nStar_tg {tg : Tg} {y : Expr} (h : tgOk tb ws tg y = true) : ∀ (rest : List Expr) (env : PySem.Env), assignEach (y :: rest) env = (false, assign y env) :: assignEach rest env := by
  intro rest env
  cases y <;> first | rfl | (cases tg <;> simp [tgOk] at h)
theorem mkKids {t x y : T} {a b : Tg} {e e' : Env} (h : asgT (.t2 a b) t e = some e') : (∃ x y, (t = .fz (.tup [x, y]) ∨ t = .fz (.lst [x, y])) ∧ ∃ e1, asgT a (.fz x) e = some e1 ∧ asgT b (.fz y) e1 = some e') ∨ ∃ x y, t = .tup [x, y] ∧ ∃ e1, asgT a x e = some e1 ∧ asgT b y e1 = some e' := by
  simp only [asgT] at h
  split at h
  · split at h
    · rename_i e1 h1; exact .inl ⟨_, _, .inl rfl, e1, h1, h⟩
    · cases h
  · split at h
    · rename_i e1 h1; exact .inl ⟨_, _, .inr rfl, e1, h1, h⟩
    · cases h
  · split at h
    · rename_i e1 h1; exact .inr ⟨_, _, rfl, e1, h1, h⟩
    · cases h
  · cases h
theorem pg_of (g : Gd tb w k sc ws X) : ∀ (tg : Tg) (y : Expr), tgOk tb ws tg y = true → PG X y (tGt w tg)
  | .n i, y, h => by
    cases y with
    | Name x pos =>
      simp only [tgOk, Bool.and_eq_true, decide_eq_true_eq] at h
      obtain ⟨h1, h2⟩ := g.sto x (sto_of h.2.1)
      refine (pg_name g.nd (by rw [g.N]; exact h.1) h1 h2).imp' fun v σ H Q hw => ?_
      obtain ⟨G, L, P, e, F, t, fp, e', ht, R, ha, q⟩ := hw
      simp only [asgT] at ha
      have fin : ∀ {s : Sl}, e[i]? = some s → (∀ u, s ≠ .lk u) → e' = e.set i (.is t) → Q (σ.set i (some v)) H := fun {s} es hs ee => by
        subst ee
        exact q _ (R.asg ht es hs) (fun j hj => List.getElem?_set_ne (by simp [Tg.ix] at hj; exact fun z => hj z.symm)) (by simp)
      split at ha
      · cases ha
      · rename_i s hn es
        simp at ha
        exact fin es (fun u z => hn u (by rw [z])) ha.symm
      · cases ha
    | _ => simp [tgOk] at h
  | .t2 a b, y, h => by
    match y, h with
    | .Tuple [y1, y2] kk pos, h =>
      simp only [tgOk, Bool.and_eq_true] at h
      have p1 := pg_of g a y1 h.1
      have p2 := pg_of g b y2 h.2
      have ae : ∀ env, assignEach [y1, y2] env = [(false, assign y1 env), (false, assign y2 env)] := fun env => by rw [nStar_tg h.1, nStar_tg h.2]; rfl
      have ps : PGs X [y1, y2] (gCons (tGt w a) (gCons (tGt w b) gNil)) := pgs_cons p1 (pgs_cons p2 pgs_nil (by rw [nStar_tg h.2]; rfl)) (by rw [nStar_tg h.1]; rfl)
      refine ((pg_tup (k := kk) (n := 2) g.calm ps (by rw [ae]; rfl) (by rw [ae]; rfl)).or (pg_lst (k := kk) (n := 2) g.calm ps (by rw [ae]; rfl) (by rw [ae]; rfl))).imp' fun v σ H Q hw => ?_
      obtain ⟨G, L, P, e, F, t, fp, e', ht, R, ha, q⟩ := hw
      have core : ∀ {v1 v2 : V} {t1 t2 : T} {f1 f2 : List Addr} {e1 : Env}, RT w.K F H v1 t1 f1 → RT w.K F H v2 t2 f2 → Rel w.K G L (f1 ++ (f2 ++ P)) e F σ H → asgT a t1 e = some e1 → asgT b t2 e1 = some e' → gCons (tGt w a) (gCons (tGt w b) gNil) [v1, v2] σ H Q := fun {v1 v2 t1 t2 f1 f2 e1} r1 r2 R1 a1 a2 =>
        ⟨v1, [v2], rfl, G, L, f2 ++ P, e, F, t1, f1, e1, r1, R1, a1, fun σ1 R2 k1 l1 => ⟨v2, [], rfl, G, L, P, e1, F, t2, f2, e', r2, R2, a2, fun σ2 R3 k2 l2 => ⟨rfl, q σ2 R3 (fun i hi => by simp only [Tg.ix, List.mem_append, not_or] at hi; rw [k2 i hi.2, k1 i hi.1]) (l2.trans l1)⟩⟩⟩
      rcases mkKids (x := .fz .non) (y := .fz .non) ha with ⟨x, y, ht', e1, a1, a2⟩ | ⟨x, y, rfl, e1, a1, a2⟩
      · rcases ht' with rfl | rfl
        · cases ht with
          | fz ht => cases ht with
            | @tup c xs _ k1 k2 => cases k2 with
              | cons k2 k3 => cases k3 with
                | cons k3 k4 => cases k4; exact .inl ⟨c, _, rfl, by rw [g.K]; exact SqT.up R.same k1.t, rfl, core (.fz k2) (.fz k3) R a1 a2⟩
        · cases ht with
          | fz ht => cases ht with
            | @lst c xs _ k1 k2 => cases k2 with
              | cons k2 k3 => cases k3 with
                | cons k3 k4 => cases k4; exact .inr ⟨c, _, rfl, SqL.of (R.same _ _ k1), rfl, core (.fz k2) (.fz k3) R a1 a2⟩
      · cases ht with
        | @tup c xs _ _ k1 k2 => cases k2 with
          | @cons _ _ _ _ f1 _ k2 k3 => cases k3 with
            | @cons _ _ _ _ f2 _ k3 k4 =>
              cases k4
              exact .inl ⟨c, _, rfl, SqT.of (R.same _ _ k1), rfl, core k2 k3 (by simpa [List.append_assoc] using R) a1 a2⟩
  | .t3 a b c, y, h => by
    match y, h with
    | .Tuple [y1, y2, y3] kk pos, h =>
      simp only [tgOk, Bool.and_eq_true] at h
      have p1 := pg_of g a y1 h.1
      have p2 := pg_of g b y2 h.2.1
      have p3 := pg_of g c y3 h.2.2
      have ae : ∀ env, assignEach [y1, y2, y3] env = [(false, assign y1 env), (false, assign y2 env), (false, assign y3 env)] := fun env => by rw [nStar_tg h.1, nStar_tg h.2.1, nStar_tg h.2.2]; rfl
      have ps : PGs X [y1, y2, y3] (gCons (tGt w a) (gCons (tGt w b) (gCons (tGt w c) gNil))) := pgs_cons p1 (pgs_cons p2 (pgs_cons p3 pgs_nil (by rw [nStar_tg h.2.2]; rfl)) (by rw [nStar_tg h.2.1]; rfl)) (by rw [nStar_tg h.1]; rfl)
      refine (pg_tup (k := kk) (n := 3) g.calm ps (by rw [ae]; rfl) (by rw [ae]; rfl)).imp' fun v σ H Q hw => ?_
      obtain ⟨G, L, P, e, F, t, fp, e', ht, R, ha, q⟩ := hw
      have core : ∀ {v1 v2 v3 : V} {t1 t2 t3 : T} {f1 f2 f3 : List Addr} {e1 e2 : Env}, RT w.K F H v1 t1 f1 → RT w.K F H v2 t2 f2 → RT w.K F H v3 t3 f3 → Rel w.K G L (f1 ++ (f2 ++ (f3 ++ P))) e F σ H → asgT a t1 e = some e1 → asgT b t2 e1 = some e2 → asgT c t3 e2 = some e' → gCons (tGt w a) (gCons (tGt w b) (gCons (tGt w c) gNil)) [v1, v2, v3] σ H Q := fun {v1 v2 v3 t1 t2 t3 f1 f2 f3 e1 e2} r1 r2 r3 R1 a1 a2 a3 =>
        ⟨v1, [v2, v3], rfl, G, L, f2 ++ (f3 ++ P), e, F, t1, f1, e1, r1, R1, a1, fun σ1 R2 k1 l1 => ⟨v2, [v3], rfl, G, L, f3 ++ P, e1, F, t2, f2, e2, r2, R2, a2, fun σ2 R3 k2 l2 => ⟨v3, [], rfl, G, L, P, e2, F, t3, f3, e', r3, R3, a3, fun σ3 R4 k3 l3 =>
          ⟨rfl, q σ3 R4 (fun i hi => by simp only [Tg.ix, List.mem_append, not_or] at hi; rw [k3 i hi.2.2, k2 i hi.2.1, k1 i hi.1]) (l3.trans (l2.trans l1))⟩⟩⟩⟩
      simp only [asgT] at ha
      split at ha
      · split at ha
        · rename_i e1 a1
          split at ha
          · rename_i e2 a2
            cases ht with
            | fz ht => cases ht with
              | @tup c xs _ k1 k2 => cases k2 with
                | cons k2 k3 => cases k3 with
                  | cons k3 k4 => cases k4 with
                    | cons k4 k5 => cases k5; exact ⟨c, _, rfl, by rw [g.K]; exact SqT.up R.same k1.t, rfl, core (.fz k2) (.fz k3) (.fz k4) R a1 a2 ha⟩
          · cases ha
        · cases ha
      · split at ha
        · rename_i e1 a1
          split at ha
          · rename_i e2 a2
            cases ht with
            | @tup c xs _ _ k1 k2 => cases k2 with
              | @cons _ _ _ _ f1 _ k2 k3 => cases k3 with
                | @cons _ _ _ _ f2 _ k3 k4 => cases k4 with
                  | @cons _ _ _ _ f3 _ k4 k5 =>
                    cases k5
                    exact ⟨c, _, rfl, SqT.of (R.same _ _ k1), rfl, core k2 k3 k4 (by simpa [List.append_assoc] using R) a1 a2 ha⟩
          · cases ha
        · cases ha
      · cases ha
end
end Fx

set_option Elab.async false
set_option linter.all false
set_option maxRecDepth 100000
/-! Fx: comprehensions. -/
namespace Fx
open PySem PySem.Spec PyProof.Rows L2
section
variable {K : PySem.W.Frag} {G : Gh} {L P Q : List Addr} {σ σ' : SSt} {F F' H H' : Hp} {e e' : Env}
theorem Rel.len (R : Rel K G L P e F σ H) : σ.length = e.length := by obtain ⟨fp, g1, _⟩ := R.env; exact g1.len
theorem Rel.wipe' {i : Nat} {o : Option V} (R : Rel K G L P e F σ H) : Rel K G L P (e.set i .un) F (σ.set i o) H := by
  cases es : e[i]? with
  | some s => exact R.wipe es
  | none =>
    have h1 := List.getElem?_eq_none_iff.mp es
    rw [List.set_eq_of_length_le h1, List.set_eq_of_length_le (by rw [R.len]; exact h1)]
    exact R
theorem Rel.wipes : ∀ (own : List Nat) {e : Env} {σ : SSt}, Rel K G L P e F σ H → Rel K G L P (wipeE own e) F (L2.wipe σ own) H
  | [], _, _, R => R
  | i :: own, _, _, R => by
    show Rel K G L P ((wipeE own _).set i .un) F ((L2.wipe _ own).set i none) H
    exact (R.wipes own).wipe'
theorem ext_st {σ σ' : SSt} (h : ∀ i : Nat, σ[i]? = σ'[i]?) : σ = σ' := List.ext_getElem? h
theorem wipe_in : ∀ {own : List Nat} {σ : SSt} {i : Nat}, i ∈ own → i < σ.length → (L2.wipe σ own)[i]? = some none
  | j :: own, σ, i, h, hl => by
    show ((L2.wipe σ own).set j none)[i]? = some none
    by_cases hj : i = j
    · subst hj; rw [List.getElem?_set_self (by rw [wipe_length]; exact hl)]
    · rw [List.getElem?_set_ne (Ne.symm hj)]
      exact wipe_in ((List.mem_cons.mp h).resolve_left hj) hl
theorem wipe_eq {own : List Nat} (h : ∀ i, i ∉ own → σ'[i]? = σ[i]?) (hl : σ'.length = σ.length) : L2.wipe σ' own = L2.wipe σ own := by
  refine ext_st fun i => ?_
  by_cases hi : i ∈ own
  · by_cases hlt : i < σ.length
    · rw [wipe_in hi hlt, wipe_in hi (by omega)]
    · rw [List.getElem?_eq_none (by rw [wipe_length]; omega), List.getElem?_eq_none (by rw [wipe_length]; omega)]
  · rw [wipe_out hi, wipe_out hi, h i hi]
theorem wipe_wipe {own : List Nat} : L2.wipe (L2.wipe σ own) own = L2.wipe σ own := wipe_eq (fun i hi => wipe_out hi) (wipe_length _ _)
theorem wipe_sub {own own1 : List Nat} (hs : ∀ i ∈ own1, i ∈ own) : L2.wipe (L2.wipe σ own1) own = L2.wipe σ own := wipe_eq (fun i hi => wipe_out fun z => hi (hs i z)) (wipe_length _ _)
/-- the slots of a block's own come back -/
theorem Rel.back {e1 : Env} {F1 H1 : Hp} {P1 L1 : List Addr} (R1 : Rel K G L1 P1 e1 F1 σ H1) (s : Same F1 F) : ∀ (own : List Nat) {e : Env} {σ1 : SSt}, ownOk own e1 = true → Rel K G L P e F σ1 H → (∀ i, i ∉ own → σ1[i]? = σ[i]?) → σ1.length = σ.length → (∀ i ∈ own, ∀ t, e[i]? ≠ some (.lk t)) → Rel K G L P (backE e1 own e) F σ H
  | [], e, σ1, _, R, h, _, _ => by
    have : σ1 = σ := ext_st fun i => h i (by simp)
    subst this; exact R
  | i :: own, e, σ1, ho, R, h, hl, hk => by
    have ho' : ownOk own e1 = true := by unfold ownOk at ho ⊢; simp only [List.all_cons, Bool.and_eq_true] at ho; exact ho.2
    simp only [backE]
    have hlen : σ.length = e1.length := R1.len
    have hlt1 : i < e1.length := by
      rcases ownOk_at ho List.mem_cons_self with z | ⟨d, z⟩ <;> exact (List.getElem?_eq_some_iff.mp z).1
    have hlt : i < e.length := by rw [← R.len, hl, hlen]; exact hlt1
    have es : ∃ sl, e[i]? = some sl := ⟨_, List.getElem?_eq_getElem hlt⟩
    obtain ⟨sl, es⟩ := es
    have hn : ∀ u, sl ≠ .lk u := fun u z => hk i List.mem_cons_self u (by rw [es, z])
    have next : ∀ {o : Option V}, σ[i]? = some o → Rel K G L P (e.set i (e1.getD i .un)) F (σ1.set i o) H → Rel K G L P (backE e1 own (e.set i (e1.getD i .un))) F σ H := fun {o} so R2 => by
      refine Rel.back R1 s own ho' R2 (fun j hj => ?_) (by simpa using hl) fun j hj t => ?_
      · by_cases hji : j = i
        · subst hji
          rw [List.getElem?_set_self (by rw [hl, hlen]; exact hlt1), so]
        · rw [List.getElem?_set_ne (Ne.symm hji)]
          exact h j (by simp [hji, hj])
      · by_cases hji : j = i
        · subst hji
          rw [List.getElem?_set_self hlt]
          rw [List.getD_eq_getElem?_getD]
          rcases ownOk_at ho List.mem_cons_self with z | ⟨d, z⟩ <;> rw [z] <;> simp
        · rw [List.getElem?_set_ne (Ne.symm hji)]
          exact hk j (List.mem_cons_of_mem _ hj) t
    obtain ⟨fp, g1, _⟩ := R1.env
    rcases ownOk_at ho List.mem_cons_self with z | ⟨d, z⟩
    · have eg : e1.getD i .un = .un := by rw [List.getD_eq_getElem?_getD, z]; rfl
      obtain ⟨o, A, q, B, a1, _⟩ := g1.at z
      refine next a1 ?_
      rw [eg]
      exact R.wipe es
    · have eg : e1.getD i .un = .is (.fz d) := by rw [List.getD_eq_getElem?_getD, z]; rfl
      obtain ⟨o, A, q, B, a1, _, ⟨v, rfl, a3, _⟩, _⟩ := g1.at z
      refine next a1 ?_
      rw [eg]
      cases a3 with
      | fz a3 => exact Rel.asg (fp := []) R (.fz (a3.mn s)) es hn
/-- a new list that is filled -/
theorem Rel.putT {D : Addr} {fpa fpt : List Addr} {ys : List V} (R : Rel K G L (fpt ++ ((D :: fpa) ++ P)) e F σ H) : Rel K G L ((D :: (fpa ++ fpt)) ++ P) e F σ (upd H D (.lst ys)) ∧ (∀ a, a ≠ D → upd H D (.lst ys) a = H a) ∧ D ∉ fpa ++ fpt ∧ Prs P L H (upd H D (.lst ys)) ∧ F D = none := by
  obtain ⟨gp, g1, g2, g4, g3⟩ := R.env
  have pm : ((fpt ++ ((D :: fpa) ++ P)) ++ gp).Perm ((D :: (fpa ++ fpt)) ++ P ++ gp) := by
    apply List.perm_iff_count.mpr
    intro b
    simp only [List.count_append, List.count_cons]
    omega
  have nd := nd_perm pm g2
  have ndD : D ∉ (fpa ++ fpt) ++ P ++ gp := by
    have : (D :: ((fpa ++ fpt) ++ P ++ gp)).Nodup := by simpa using nd
    exact (List.nodup_cons.mp this).1
  have fD := g3 D (by simp)
  have lD := g4 D (by simp)
  have keep : ∀ a, a ≠ D → upd H D (.lst ys) a = H a := fun a ha => upd_ne ha
  have up : ∀ a, H a ≠ none → upd H D (.lst ys) a ≠ none := fun a ha => by
    by_cases z : a = D
    · subst z; rw [upd_same]; simp
    · rw [upd_ne z]; exact ha
  have hne : ∀ a ∈ gp, a ≠ D := fun a ha z => ndD (by subst z; simp [ha])
  refine ⟨⟨fun a o e1 => ?_, ⟨gp, g1.frame (Same.refl F) fun a ha => ⟨(g3 a (by simp [ha])).1, keep a (hne a ha)⟩, nd, fun a ha => g4 a (by simp at ha ⊢; rcases ha with z | z | z | z <;> simp [z]), fun a ha => ?_⟩, fun a xs e1 => ?_, R.sub, R.new, fun a o e1 e2 => ?_, fun a ha => up a (R.live a ha), fun a ha => up a (R.lv a ha)⟩, keep, fun z => ndD (by simp at z ⊢; rcases z with z | z <;> simp [z]), fun x hx => keep x fun z => ?_, fD.1⟩
  · rw [upd_ne (ne_of_none e1 fD.1)]; exact R.same _ _ e1
  · have := g3 a (pm.mem_iff.mpr ha)
    exact ⟨this.1, up a this.2.1, this.2.2⟩
  · by_cases z : a = D
    · subst z; rw [upd_same] at e1; cases e1
    · rw [upd_ne z] at e1; exact R.tups _ _ e1
  · have h1 := R.frm a o e1 e2
    rw [upd_ne fun z => ?_]; exact h1
    subst z
    rcases fD.2.2 with y | y
    · rw [y] at e1; cases e1
    · exact e2 y
  · subst z
    rcases hx with z | z
    · exact ndD (by simp [z])
    · exact lD z
end
def tOt (w : Wd) (x : Oe) : TT := fun σ H Q => ∃ G L P e F, Rel w.K G L P e F σ H ∧ Po w G L P σ (rpA w G L P σ) F H (evt w.C x e) Q
/-- where nothing is raised -/
def Wd.calm (w : Wd) : Wd := { w with W := fun _ _ _ _ => False }
theorem Po.okc {w : Wd} {G : Gh} {L P : List Addr} {σ : SSt} {F H : Hp} {α β : Type} {rep : α → Env → Hp → Hp → β → Prop} {o : Out α} {a : α} {e' : Env} {Q : β → Hp → Prop} (eo : o = .ok a e') (h : ∀ b F' H', rep a e' F' H' b → Same F F' → Prs P L H H' → Q b H') : Po w G L P σ rep F H o Q := by
  rw [eo]; exact h
/-- the body of a comprehension -/
def cbody (C : Cf) (own : List Nat) (x : E) (tg : Tg) (ifs : Oe) : D → Env → Out (List T) := fun d e2 => match asgT tg (.fz d) e2 with
  | none => .bad
  | some e3 => (evt C ifs e3).bnd fun k e4 => if k then (ev C x e4).bnd fun r e5 => (match mv r e5 with
      | some (t, e6) => .ok [t] (wipeE own e6)
      | none => .bad) else .ok [] (wipeE own e4)
theorem compL_cons {f : D → Env → Out (List T)} {d : D} {ds : List D} {e e7 : Env} {ts : List T} (h : compL f (d :: ds) e = .ok ts e7) : ∃ t e1 ts', f d e = .ok t e1 ∧ compL f ds e1 = .ok ts' e7 ∧ ts = t ++ ts' ∧ (t ++ ts').length ≤ sizeL := by
  simp only [compL] at h
  cases q : f d e with
  | ok t e1 =>
    rw [q] at h
    simp only [Out.nox, Out.bnd] at h
    cases q2 : compL f ds e1 with
    | ok ts' e2 =>
      rw [q2] at h
      simp only at h
      split at h
      · rename_i hz
        simp at h
        exact ⟨t, e1, ts', rfl, by rw [q2, h.2], h.1.symm, hz⟩
      · cases h
    | exc _ _ _ => rw [q2] at h; cases h
    | bad => rw [q2] at h; cases h
  | exc _ _ _ => rw [q] at h; simp [Out.nox, Out.bnd] at h
  | bad => rw [q] at h; simp [Out.nox, Out.bnd] at h
theorem cbody_ok {C : Cf} {own : List Nat} {x : E} {tg : Tg} {ifs : Oe} {d : D} {e e' : Env} {t : List T} (h : cbody C own x tg ifs d e = .ok t e') : ∃ e3 k e4, asgT tg (.fz d) e = some e3 ∧ evt C ifs e3 = .ok k e4 ∧
    ((k = true ∧ ∃ r e5 u e6, ev C x e4 = .ok r e5 ∧ mv r e5 = some (u, e6) ∧ t = [u] ∧ e' = wipeE own e6) ∨ (k = false ∧ t = [] ∧ e' = wipeE own e4)) := by
  unfold cbody at h
  split at h
  · cases h
  · rename_i e3 ha
    cases q : evt C ifs e3 with
    | ok k e4 =>
      rw [q] at h
      simp only [Out.bnd] at h
      refine ⟨e3, k, e4, ha, q, ?_⟩
      cases k with
      | true =>
        simp only [if_true] at h
        cases q2 : ev C x e4 with
        | ok r e5 =>
          rw [q2] at h
          simp only at h
          split at h
          · rename_i u e6 hm
            simp at h
            exact .inl ⟨rfl, r, e5, u, e6, rfl, hm, h.1.symm, h.2.symm⟩
          · cases h
        | exc _ _ _ => rw [q2] at h; cases h
        | bad => rw [q2] at h; cases h
      | false => simp at h; exact .inr ⟨rfl, h.1, h.2.symm⟩
    | exc _ _ _ => rw [q] at h; cases h
    | bad => rw [q] at h; cases h

theorem cbody_lp (C : Cf) (own : List Nat) (x : E) (tg : Tg) (ifs : Oe) (d : D) (e2 : Env) : LPo own e2 (cbody C own x tg ifs d e2).nox := by
  unfold cbody
  split
  · trivial
  · rename_i e3 ha
    refine LPo.pre (KL.o (kl_asgT ha)) ((lp_evt C ifs e3).wiped fun k e4 => ?_)
    split
    · refine (lp_ev C x e4).wiped fun r e5 => ?_
      split
      · rename_i hm
        exact KLo.trans (KL.o (kl_mv hm)) wipe_klo
      · trivial
    · exact wipe_klo
def UnO (own : List Nat) (e : Env) : Prop := ∀ i ∈ own, ∀ t : T, e[i]? ≠ some (.lk t)
theorem wipeE_len : ∀ (own : List Nat) (e : Env), (wipeE own e).length = e.length
  | [], _ => rfl
  | i :: own, e => by simp [wipeE, wipeE_len own]
theorem wipeE_un : ∀ (own : List Nat) (e : Env), UnO own (wipeE own e)
  | [], _ => fun i hi => by simp at hi
  | j :: own, e => fun i hi t z => by
    simp only [wipeE] at z
    by_cases hj : i = j
    · subst hj
      by_cases hl : i < (wipeE own e).length
      · rw [List.getElem?_set_self hl] at z; cases z
      · rw [List.getElem?_eq_none (by simpa using hl)] at z; cases z
    · rw [List.getElem?_set_ne (Ne.symm hj)] at z
      exact wipeE_un own e i ((List.mem_cons.mp hi).resolve_left hj) t z
theorem compL_un {own : List Nat} {f : D → Env → Out (List T)} (hf : ∀ d e t e', f d e = .ok t e' → UnO own e') : ∀ {ds : List D} {e e7 : Env} {ts : List T}, compL f ds e = .ok ts e7 → UnO own e → UnO own e7
  | [], e, e7, ts, h, hu => by simp [compL] at h; rw [← h.2]; exact hu
  | d :: ds, e, e7, ts, h, hu => by
    obtain ⟨t, e1, ts', h1, h2, _⟩ := compL_cons h
    exact compL_un hf h2 (hf _ _ _ _ h1)
theorem cbody_un {C : Cf} {own : List Nat} {x : E} {tg : Tg} {ifs : Oe} (d : D) (e : Env) (t : List T) (e' : Env) (h : cbody C own x tg ifs d e = .ok t e') : UnO own e' := by
  obtain ⟨e3, k, e4, _, _, c⟩ := cbody_ok h
  rcases c with ⟨_, r, e5, u, e6, _, _, _, rfl⟩ | ⟨_, _, rfl⟩ <;> exact wipeE_un _ _
theorem ev_comp {C : Cf} {own : List Nat} {x : E} {tg : Tg} {it : It} {ifs : Oe} {e : Env} : ev C (.comp own x tg it ifs) e = (evi C it e).bnd fun o e1 => if ownOk own e1 then
    (compL (cbody C own x tg ifs) o.1 (wipeE own e1)).bnd fun ts e7 => .ok (.t (.own ts)) (unlock o.2 (backE e1 own e7)) else .bad := by
  simp only [ev]
  rfl
theorem drop_cons {α : Type} {l : List α} {i : Nat} {x : α} (h : l[i]? = some x) : l.drop i = x :: l.drop (i + 1) := by
  obtain ⟨hl, hx⟩ := List.getElem?_eq_some_iff.mp h
  rw [List.drop_eq_getElem_cons hl, hx]
section
variable {w : Wd} {G : Gh} {L P : List Addr}
/-- one loop that fills the list at D -/
theorem lc_loop {σ0 : SSt} {own : List Nat} {x : E} {tg : Tg} {ifs : Oe} {ds : List D} {e0 e7 : Env} {tsall ts0 : List T} {D : Addr} {xs0 : List V} {fp0 : List Addr} {F1 H1 : Hp} {J : L2.It} {Fin : Hp → Prop} (hsub : ∀ i ∈ tg.ix, i ∈ own)
    (hc : compL (cbody w.C own x tg ifs) ds e0 = .ok tsall e7) (hz : (ts0 ++ tsall).length ≤ sizeL) (hD : H1 D = some (.lst xs0)) (A0 : RTs w.K F1 H1 xs0 ts0 fp0) (R0 : Rel w.K G L ((D :: fp0) ++ P) e0 F1 (L2.wipe σ0 own) H1) (Wk : Walk w.K L J F1 H1 ds)
    (fin : ∀ xs fp FW H, H D = some (.lst xs) → RTs w.K FW H xs (ts0 ++ tsall) fp → Rel w.K G L ((D :: fp) ++ P) e7 FW (L2.wipe σ0 own) H → Same F1 FW → Prs P L H1 H → Fin H) :
    ∃ W : Nat → Nat → Hp → Prop, (∃ m, W 0 m H1) ∧ ∀ i m H, W i m H →
      (J.stop i H ∧ Fin H) ∨ (J.go i H ∧ ∃ Nx : Hp → Prop, (∀ H', Nx H' → ∃ m', m' < m ∧ W (i + 1) m' H') ∧ ∀ z H', J.yld i H z H' → tGt w.calm tg z (L2.wipe σ0 own) H' fun σ2 H2 => L2.wipe σ2 own = L2.wipe σ0 own ∧ tOt w.calm ifs σ2 H2 fun b H3 =>
        if b = true then tE w.calm x σ2 H3 fun y H4 => ∃ acc, H4 D = some (.lst acc) ∧ acc.length < sizeLine ∧ Nx (upd H4 D (.lst (acc ++ [y]))) else Nx H3) := by
  refine ⟨fun i m H => m = ds.length - i ∧ i ≤ ds.length ∧ ∃ eW FW xs ts ts' fp, tsall = ts ++ ts' ∧ compL (cbody w.C own x tg ifs) (ds.drop i) eW = .ok ts' e7 ∧ H D = some (.lst xs) ∧ RTs w.K FW H xs (ts0 ++ ts) fp ∧
    Rel w.K G L ((D :: fp) ++ P) eW FW (L2.wipe σ0 own) H ∧ Same F1 FW ∧ Prs P L H1 H, ⟨ds.length, by simp, Nat.zero_le _, e0, F1, xs0, [], tsall, fp0, by simp, by simpa using hc, hD, by simpa using A0, R0, Same.refl _, Prs.refl⟩, ?_⟩
  rintro i m H ⟨rfl, hi, eW, FW, xs, ts, ts', fp, e1, e2, hDx, hA, R, s1, p1⟩
  have wk := Wk i FW H s1 R.same fun a ha => p1 a (.inr ha)
  by_cases hlt : i < ds.length
  · obtain ⟨d, hd⟩ : ∃ d, ds[i]? = some d := ⟨_, List.getElem?_eq_getElem hlt⟩
    obtain ⟨hgo, hy⟩ := wk.1 d hd
    rw [drop_cons hd] at e2
    obtain ⟨t, eB, ts2, b1, b2, rfl, hz2⟩ := compL_cons e2
    obtain ⟨e3, k, e4, c1, c2, c3⟩ := cbody_ok b1
    refine .inr ⟨hgo, fun H' => ∃ FW' xs' fp', H' D = some (.lst xs') ∧ RTs w.K FW' H' xs' (ts0 ++ (ts ++ t)) fp' ∧ Rel w.K G L ((D :: fp') ++ P) eB FW' (L2.wipe σ0 own) H' ∧ Same F1 FW' ∧ Prs P L H1 H',
      fun H' ⟨FW', xs', fp', k1, k2, k3, k4, k5⟩ => ⟨ds.length - (i + 1), by omega, rfl, hlt, eB, FW', xs', ts ++ t, ts2, fp', by rw [e1, List.append_assoc], b2, k1, k2, k3, k4, k5⟩, fun z H' y => ?_⟩
    obtain ⟨F2, s2, ⟨fpz, rz, Rz⟩, p2⟩ := (hy z H' y).rr R
    cases rz with
    | fz rz =>
    refine ⟨G, L, (D :: fp) ++ P, eW, F2, .fz d, [], e3, .fz rz, Rz, c1, fun σ2 R2 k2 l2 => ⟨?_, ?_⟩⟩
    · rw [wipe_eq (σ := L2.wipe σ0 own) (fun j hj => k2 j fun z => hj (hsub j z)) l2, wipe_wipe]
    have hw2 : L2.wipe σ2 own = L2.wipe σ0 own := by rw [wipe_eq (σ := L2.wipe σ0 own) (fun j hj => k2 j fun z => hj (hsub j z)) l2, wipe_wipe]
    have hA2 : RTs w.K F2 H' xs (ts0 ++ ts) fp := hA.frame s2 fun a ha => ⟨(R2.outP a (by simp [ha])).1, p2 a (.inl (by simp [ha]))⟩
    have hD2 : H' D = some (.lst xs) := by rw [p2 D (.inl (by simp))]; exact hDx
    refine ⟨G, L, (D :: fp) ++ P, e3, F2, R2, Po.okc c2 fun b F3 H3 ⟨eb, R3⟩ s3 p3 => ?_⟩
    subst eb
    have hA3 : RTs w.K F3 H3 xs (ts0 ++ ts) fp := hA2.frame s3 fun a ha => ⟨(R3.outP a (by simp [ha])).1, p3 a (.inl (by simp [ha]))⟩
    have hD3 : H3 D = some (.lst xs) := by rw [p3 D (.inl (by simp))]; exact hD2
    have pr3 : Prs P L H1 H3 := p1.trans ((p2.less fun a m => by simp [m]).trans (p3.less fun a m => by simp [m]))
    rcases c3 with ⟨rfl, r, e5, u, e6, d1, d2, rfl, rfl⟩ | ⟨rfl, rfl, rfl⟩
    · simp only [if_true]
      refine ⟨G, L, (D :: fp) ++ P, e4, F3, R3, Po.okc d1 fun yv F4 H4 R4 s4 p4 => ?_⟩
      have R4 : RR w.K G L ((D :: fp) ++ P) σ2 r e5 F4 H4 yv := R4
      obtain ⟨F5, fpu, s5, ru, R5⟩ := R4.mv d2
      have hA5 : RTs w.K F5 H4 xs (ts0 ++ ts) fp := hA3.frame (s4.trans s5) fun a ha => ⟨(R5.outP a (by simp [ha])).1, p4 a (.inl (by simp [ha]))⟩
      have hD5 : H4 D = some (.lst xs) := by rw [p4 D (.inl (by simp))]; exact hD3
      have R5' : Rel w.K G L (fpu ++ ((D :: fp) ++ P)) (wipeE own e6) F5 (L2.wipe σ0 own) H4 := by rw [← hw2]; exact R5.wipes own
      obtain ⟨R6, k6, n6, p6, _⟩ := R5'.putT (ys := xs ++ [yv])
      simp only [List.mem_append, not_or] at n6
      refine ⟨xs, hD5, ?_, F5, xs ++ [yv], fp ++ (fpu ++ []), upd_same, ?_, by simpa using R6, s1.trans (s2.trans (s3.trans (s4.trans s5))), pr3.trans ((p4.less fun a m => by simp [m]).trans p6)⟩
      · rw [hA5.len, ← sizeL_eq]
        have : (ts0 ++ tsall).length ≤ sizeL := hz
        rw [e1] at this
        simp at this ⊢
        omega
      · rw [← List.append_assoc]
        exact (hA5.up n6.1).app (.cons (ru.up n6.2) .nil)
    · simp only [Bool.false_eq_true, if_false]
      refine ⟨F3, xs, fp, hD3, by simpa using hA3, by rw [← hw2]; exact R3.wipes own, s1.trans (s2.trans s3), pr3⟩
  · have : i = ds.length := by omega
    subst this
    rw [List.drop_length] at e2
    simp only [compL, Out.ok.injEq] at e2
    obtain ⟨rfl, rfl⟩ := e2
    rw [List.append_nil] at e1
    subst e1
    exact .inl ⟨wk.2 (Nat.le_refl _), fin xs fp FW H hDx hA R s1 p1⟩
theorem lc_read {σ : SSt} {H : Hp} {Q : V → Hp → Prop} {own : List Nat} {x : E} {tg : Tg} {it : It} {ifs : Oe} (hsub : ∀ i ∈ tg.ix, i ∈ own) (h : tE w (.comp own x tg it ifs) σ H Q) : tLc (tIt w it) (tGt w.calm tg) (tOt w.calm ifs) (tE w.calm x) own σ H Q := by
  obtain ⟨G, L, P, e, F, R, h⟩ := h
  rw [ev_comp] at h
  have li := lp_evi w.C it e
  refine ⟨G, L, P, e, F, R, Po.bnd h fun o e1 J F1 H1 eo hJ s1 p1 h1 => ?_⟩
  rw [eo] at li
  obtain ⟨L1, lk, R1, hl, Wk⟩ := hJ
  split at h1
  · rename_i ho
    intro D hD
    cases ec : compL (cbody w.C own x tg ifs) o.1 (wipeE own e1) with
    | exc c fs e7 => have := lp_compL (own := own) (f := cbody w.C own x tg ifs) (cbody_lp w.C own x tg ifs) o.1 (wipeE own e1); rw [ec] at this; exact this.elim
    | bad => rw [ec] at h1; exact h1.elim
    | ok tsall e7 =>
      rw [ec] at h1
      have kl := lp_compL (own := own) (f := cbody w.C own x tg ifs) (cbody_lp w.C own x tg ifs) o.1 (wipeE own e1)
      rw [ec] at kl
      simp only [Out.bnd] at h1
      obtain ⟨RD, f1, k1, d1⟩ := R1.lst (xs := []) hD
      have hz : ([] ++ tsall : List T).length ≤ sizeL := by
        cases ed : o.1 with
        | nil => rw [ed] at ec; simp [compL] at ec; rw [ec.1]; simp
        | cons d ds => rw [ed] at ec; obtain ⟨t, e2, ts', _, _, rfl, hz⟩ := compL_cons ec; simpa using hz
      refine lc_loop (w := w) (P := P) (F1 := F1) (ts0 := []) (xs0 := []) (fp0 := []) hsub ec hz upd_same .nil (RD.wipes own) ?_ fun xs fp FW H2 q1 q2 q3 q4 q5 => ?_
      · intro i F2 H2 s2 s3 k
        exact Wk i F2 H2 s2 s3 fun a ha => by rw [k a ha, k1 a (R1.lv a ha)]
      · have q5' : Prs P L1 H1 H2 := (R1.prs0 k1).trans q5
        have klo : KLo own e1 e7 := wipe_klo.trans kl
        have R7 := Rel.back R1 q4 own ho q3 (fun i hi => wipe_out hi) (wipe_length _ _) fun i hi t z => ?_
        · have R8 := lk.un R7 q4 (fun a ha => q5' a (.inr ha)) fun p hp => ⟨(back_kl klo).2 p.1 p.2 (hl p hp), rfl⟩
          exact h1 (.ref D) FW H2 ⟨D :: fp, .own (R7.outP D (by simp)).1 q1 (by simpa using q2), R8⟩ q4 (q5'.sub lk.sub)
        · exact compL_un cbody_un ec (wipeE_un own e1) i hi t z
  · exact h1.elim
end
end Fx

set_option Elab.async false
set_option linter.all false
set_option maxRecDepth 100000
/-! Fx: comprehensions of two clauses. -/
namespace Fx
open PySem PySem.Spec PyProof.Rows L2
def cbody2 (C : Cf) (own : List Nat) (x : E) (tg : Tg) (ifs : Oe) (own1 : List Nat) (tg1 : Tg) (it1 : It) (ifs1 : Oe) : D → Env → Out (List T) := fun d e2 => match asgT tg (.fz d) e2 with
  | none => .bad
  | some e3 => (evt C ifs e3).bnd fun k e4 => if k then (evi C it1 e4).bnd fun o1 e5 => if ownOk own1 e5 then
      (compL (cbody C own1 x tg1 ifs1) o1.1 (wipeE own1 e5)).bnd fun ts e11 => .ok ts (wipeE own (unlock o1.2 e11)) else .bad
    else .ok [] (wipeE own e4)
theorem ev_comp2 {C : Cf} {own own1 : List Nat} {x : E} {tg tg1 : Tg} {it it1 : It} {ifs ifs1 : Oe} {e : Env} : ev C (.comp2 own x tg it ifs own1 tg1 it1 ifs1) e = (evi C it e).bnd fun o e1 => if ownOk own e1 && own1.all own.contains then
    (compL (cbody2 C own x tg ifs own1 tg1 it1 ifs1) o.1 (wipeE own e1)).bnd fun ts e7 => .ok (.t (.own ts)) (unlock o.2 (backE e1 own e7)) else .bad := by
  simp only [ev]
  rfl
theorem cbody2_ok {C : Cf} {own own1 : List Nat} {x : E} {tg tg1 : Tg} {it1 : It} {ifs ifs1 : Oe} {d : D} {e e' : Env} {t : List T} (h : cbody2 C own x tg ifs own1 tg1 it1 ifs1 d e = .ok t e') : ∃ e3 k e4, asgT tg (.fz d) e = some e3 ∧ evt C ifs e3 = .ok k e4 ∧
    ((k = true ∧ ∃ o1 e5 e11, evi C it1 e4 = .ok o1 e5 ∧ ownOk own1 e5 = true ∧ compL (cbody C own1 x tg1 ifs1) o1.1 (wipeE own1 e5) = .ok t e11 ∧ e' = wipeE own (unlock o1.2 e11)) ∨ (k = false ∧ t = [] ∧ e' = wipeE own e4)) := by
  unfold cbody2 at h
  split at h
  · cases h
  · rename_i e3 ha
    cases q : evt C ifs e3 with
    | ok k e4 =>
      rw [q] at h
      simp only [Out.bnd] at h
      refine ⟨e3, k, e4, ha, q, ?_⟩
      cases k with
      | true =>
        simp only [if_true] at h
        cases q2 : evi C it1 e4 with
        | ok o1 e5 =>
          rw [q2] at h
          simp only at h
          split at h
          · rename_i ho
            cases q3 : compL (cbody C own1 x tg1 ifs1) o1.1 (wipeE own1 e5) with
            | ok ts e11 =>
              rw [q3] at h
              simp at h
              exact .inl ⟨rfl, o1, e5, e11, rfl, ho, by rw [q3, h.1], h.2.symm⟩
            | exc _ _ _ => rw [q3] at h; cases h
            | bad => rw [q3] at h; cases h
          · cases h
        | exc _ _ _ => rw [q2] at h; cases h
        | bad => rw [q2] at h; cases h
      | false => simp at h; exact .inr ⟨rfl, h.1, h.2.symm⟩
    | exc _ _ _ => rw [q] at h; cases h
    | bad => rw [q] at h; cases h
theorem cbody2_un {C : Cf} {own own1 : List Nat} {x : E} {tg tg1 : Tg} {it1 : It} {ifs ifs1 : Oe} (d : D) (e : Env) (t : List T) (e' : Env) (h : cbody2 C own x tg ifs own1 tg1 it1 ifs1 d e = .ok t e') : UnO own e' := by
  obtain ⟨e3, k, e4, _, _, c⟩ := cbody2_ok h
  rcases c with ⟨_, o1, e5, e11, _, _, _, rfl⟩ | ⟨_, _, rfl⟩ <;> exact wipeE_un _ _
theorem cbody2_lp {C : Cf} {own own1 : List Nat} (hs : ∀ i ∈ own1, i ∈ own) (x : E) (tg tg1 : Tg) (it1 : It) (ifs ifs1 : Oe) (d : D) (e2 : Env) : LPo own e2 (cbody2 C own x tg ifs own1 tg1 it1 ifs1 d e2).nox := by
  unfold cbody2
  split
  · trivial
  · rename_i e3 ha
    refine LPo.pre (KL.o (kl_asgT ha)) ((lp_evt C ifs e3).wiped fun k e4 => ?_)
    split
    · have hi1 := lp_evi C it1 e4
      cases q1 : evi C it1 e4 with
      | exc c fs e5 => trivial
      | bad => trivial
      | ok o1 e5 =>
        rw [q1] at hi1
        rw [bnd_ok]
        split
        · exact lp_inner hs hi1.1 (fun p hp => (hi1.2 p hp).2) (lp_compL (cbody_lp C own1 x tg1 ifs1) _ _)
        · trivial
    · exact wipe_klo
section
variable {w : Wd} {G : Gh} {L P : List Addr}
theorem lc2_loop {σ0 : SSt} {own own1 : List Nat} {x : E} {tg tg1 : Tg} {it1 : It} {ifs ifs1 : Oe} {ds : List D} {e0 e7 : Env} {tsall : List T} {D : Addr} {fp0 : List Addr} {F1 H1 : Hp} {J : L2.It} {Fin : Hp → Prop} (hsub : ∀ i ∈ tg.ix, i ∈ own) (hsub1 : ∀ i ∈ tg1.ix, i ∈ own1) (hso : ∀ i ∈ own1, i ∈ own)
    (hc : compL (cbody2 w.C own x tg ifs own1 tg1 it1 ifs1) ds e0 = .ok tsall e7) (hz : tsall.length ≤ sizeL) (hD : H1 D = some (.lst [])) (R0 : Rel w.K G L ((D :: []) ++ P) e0 F1 (L2.wipe σ0 own) H1) (Wk : Walk w.K L J F1 H1 ds)
    (fin : ∀ xs fp FW H, H D = some (.lst xs) → RTs w.K FW H xs tsall fp → Rel w.K G L ((D :: fp) ++ P) e7 FW (L2.wipe σ0 own) H → Same F1 FW → Prs P L H1 H → Fin H) :
    ∃ W : Nat → Nat → Hp → Prop, (∃ m, W 0 m H1) ∧ ∀ i m H, W i m H →
      (J.stop i H ∧ Fin H) ∨ (J.go i H ∧ ∃ Nx : Hp → Prop, (∀ H', Nx H' → ∃ m', m' < m ∧ W (i + 1) m' H') ∧ ∀ z H', J.yld i H z H' → tGt w.calm tg z (L2.wipe σ0 own) H' fun σ2 H2 => L2.wipe σ2 own = L2.wipe σ0 own ∧ tOt w.calm ifs σ2 H2 fun b H3 =>
        if b = true then tIt w.calm it1 σ2 H3 fun J1 H4 => ∃ W1 : Nat → Nat → Hp → Prop, (∃ m, W1 0 m H4) ∧ ∀ j k H, W1 j k H →
          (J1.stop j H ∧ Nx H) ∨ (J1.go j H ∧ ∃ Nx1 : Hp → Prop, (∀ H', Nx1 H' → ∃ k', k' < k ∧ W1 (j + 1) k' H') ∧ ∀ z H', J1.yld j H z H' → tGt w.calm tg1 z (L2.wipe σ2 own1) H' fun σ3 H5 => L2.wipe σ3 own1 = L2.wipe σ2 own1 ∧ tOt w.calm ifs1 σ3 H5 fun b H6 =>
            if b = true then tE w.calm x σ3 H6 fun y H7 => ∃ acc, H7 D = some (.lst acc) ∧ acc.length < sizeLine ∧ Nx1 (upd H7 D (.lst (acc ++ [y]))) else Nx1 H6)
        else Nx H3) := by
  refine ⟨fun i m H => m = ds.length - i ∧ i ≤ ds.length ∧ ∃ eW FW xs ts ts' fp, tsall = ts ++ ts' ∧ compL (cbody2 w.C own x tg ifs own1 tg1 it1 ifs1) (ds.drop i) eW = .ok ts' e7 ∧ H D = some (.lst xs) ∧ RTs w.K FW H xs ts fp ∧
    Rel w.K G L ((D :: fp) ++ P) eW FW (L2.wipe σ0 own) H ∧ Same F1 FW ∧ Prs P L H1 H, ⟨ds.length, by simp, Nat.zero_le _, e0, F1, [], [], tsall, [], by simp, by simpa using hc, hD, .nil, R0, Same.refl _, Prs.refl⟩, ?_⟩
  rintro i m H ⟨rfl, hi, eW, FW, xs, ts, ts', fp, e1, e2, hDx, hA, R, s1, p1⟩
  have wk := Wk i FW H s1 R.same fun a ha => p1 a (.inr ha)
  by_cases hlt : i < ds.length
  · obtain ⟨d, hd⟩ : ∃ d, ds[i]? = some d := ⟨_, List.getElem?_eq_getElem hlt⟩
    obtain ⟨hgo, hy⟩ := wk.1 d hd
    rw [drop_cons hd] at e2
    obtain ⟨t, eB, ts2, b1, b2, rfl, hz2⟩ := compL_cons e2
    obtain ⟨e3, k, e4, c1, c2, c3⟩ := cbody2_ok b1
    refine .inr ⟨hgo, fun H' => ∃ FW' xs' fp', H' D = some (.lst xs') ∧ RTs w.K FW' H' xs' (ts ++ t) fp' ∧ Rel w.K G L ((D :: fp') ++ P) eB FW' (L2.wipe σ0 own) H' ∧ Same F1 FW' ∧ Prs P L H1 H',
      fun H' ⟨FW', xs', fp', k1, k2, k3, k4, k5⟩ => ⟨ds.length - (i + 1), by omega, rfl, hlt, eB, FW', xs', ts ++ t, ts2, fp', by rw [e1, List.append_assoc], b2, k1, k2, k3, k4, k5⟩, fun z H' y => ?_⟩
    obtain ⟨F2, s2, ⟨fpz, rz, Rz⟩, p2⟩ := (hy z H' y).rr R
    cases rz with
    | fz rz =>
    refine ⟨G, L, (D :: fp) ++ P, eW, F2, .fz d, [], e3, .fz rz, Rz, c1, fun σ2 R2 k2 l2 => ⟨?_, ?_⟩⟩
    · rw [wipe_eq (σ := L2.wipe σ0 own) (fun j hj => k2 j fun z => hj (hsub j z)) l2, wipe_wipe]
    have hw2 : L2.wipe σ2 own = L2.wipe σ0 own := by rw [wipe_eq (σ := L2.wipe σ0 own) (fun j hj => k2 j fun z => hj (hsub j z)) l2, wipe_wipe]
    have hA2 : RTs w.K F2 H' xs ts fp := hA.frame s2 fun a ha => ⟨(R2.outP a (by simp [ha])).1, p2 a (.inl (by simp [ha]))⟩
    have hD2 : H' D = some (.lst xs) := by rw [p2 D (.inl (by simp))]; exact hDx
    refine ⟨G, L, (D :: fp) ++ P, e3, F2, R2, Po.okc c2 fun b F3 H3 ⟨eb, R3⟩ s3 p3 => ?_⟩
    subst eb
    have hA3 : RTs w.K F3 H3 xs ts fp := hA2.frame s3 fun a ha => ⟨(R3.outP a (by simp [ha])).1, p3 a (.inl (by simp [ha]))⟩
    have hD3 : H3 D = some (.lst xs) := by rw [p3 D (.inl (by simp))]; exact hD2
    have pr3 : Prs P L H1 H3 := p1.trans ((p2.less fun a m => by simp [m]).trans (p3.less fun a m => by simp [m]))
    rcases c3 with ⟨rfl, o1, e5, e11, d1, d2, d3, rfl⟩ | ⟨rfl, rfl, rfl⟩
    · simp only [if_true]
      refine ⟨G, L, (D :: fp) ++ P, e4, F3, R3, Po.okc d1 fun J1 F4 H4 hJ s4 p4 => ?_⟩
      obtain ⟨L2', lk, R4, hl, Wk1⟩ := hJ
      have hA4 : RTs w.K F4 H4 xs ts fp := hA3.frame s4 fun a ha => ⟨(R4.outP a (by simp [ha])).1, p4 a (.inl (by simp [ha]))⟩
      have hD4 : H4 D = some (.lst xs) := by rw [p4 D (.inl (by simp))]; exact hD3
      have klo := lp_compL (own := own1) (f := cbody w.C own1 x tg1 ifs1) (cbody_lp w.C own1 x tg1 ifs1) o1.1 (wipeE own1 e5)
      rw [d3] at klo
      have klo : KLo own1 (wipeE own1 e5) e11 := klo
      refine lc_loop (w := w) (P := P) (σ0 := σ2) (F1 := F4) (ts0 := ts) hsub1 d3 ?_ hD4 hA4 (R4.wipes own1) Wk1 fun xs' fp' FW' H5 q1 q2 q3 q4 q5 => ?_
      · have : tsall.length ≤ sizeL := hz
        rw [e1] at this
        simp at this ⊢
        omega
      · have hn : ∀ p ∈ o1.2, p.1 ∉ own1 := fun p hp z => by
          have h1 := hl p hp
          rcases ownOk_at d2 z with y | ⟨dd, y⟩ <;> (rw [h1] at y; cases y)
        have R5 := lk.un q3 q4 (fun a ha => q5 a (.inr ha)) fun p hp => ⟨klo.2 p.1 p.2 (hn p hp) (wipe_klo.2 p.1 p.2 (hn p hp) (hl p hp)), wipe_out (hn p hp)⟩
        have R6 := R5.wipes own
        rw [wipe_sub hso, hw2] at R6
        exact ⟨FW', xs', fp', q1, q2, R6, s1.trans (s2.trans (s3.trans (s4.trans q4))), pr3.trans ((p4.less fun a m => by simp [m]).trans (q5.sub lk.sub))⟩
    · simp only [Bool.false_eq_true, if_false]
      refine ⟨F3, xs, fp, hD3, by simpa using hA3, by rw [← hw2]; exact R3.wipes own, s1.trans (s2.trans s3), pr3⟩
  · have : i = ds.length := by omega
    subst this
    rw [List.drop_length] at e2
    simp only [compL, Out.ok.injEq] at e2
    obtain ⟨rfl, rfl⟩ := e2
    rw [List.append_nil] at e1
    subst e1
    exact .inl ⟨wk.2 (Nat.le_refl _), fin xs fp FW H hDx hA R s1 p1⟩
theorem lc2_read {σ : SSt} {H : Hp} {Q : V → Hp → Prop} {own own1 : List Nat} {x : E} {tg tg1 : Tg} {it it1 : It} {ifs ifs1 : Oe} (hsub : ∀ i ∈ tg.ix, i ∈ own) (hsub1 : ∀ i ∈ tg1.ix, i ∈ own1) (h : tE w (.comp2 own x tg it ifs own1 tg1 it1 ifs1) σ H Q) :
    tLc2 (tIt w it) (tGt w.calm tg) (tOt w.calm ifs) (tIt w.calm it1) (tGt w.calm tg1) (tOt w.calm ifs1) (tE w.calm x) own own1 σ H Q := by
  obtain ⟨G, L, P, e, F, R, h⟩ := h
  rw [ev_comp2] at h
  have li := lp_evi w.C it e
  refine ⟨G, L, P, e, F, R, Po.bnd h fun o e1 J F1 H1 eo hJ s1 p1 h1 => ?_⟩
  rw [eo] at li
  obtain ⟨L1, lk, R1, hl, Wk⟩ := hJ
  split at h1
  · rename_i ho
    simp only [Bool.and_eq_true, List.all_eq_true, List.contains_iff_mem] at ho
    obtain ⟨ho, hso⟩ := ho
    intro D hD
    have kl := lp_compL (own := own) (f := cbody2 w.C own x tg ifs own1 tg1 it1 ifs1) (cbody2_lp hso x tg tg1 it1 ifs ifs1) o.1 (wipeE own e1)
    cases ec : compL (cbody2 w.C own x tg ifs own1 tg1 it1 ifs1) o.1 (wipeE own e1) with
    | exc c fs e7 => rw [ec] at kl; exact kl.elim
    | bad => rw [ec] at h1; exact h1.elim
    | ok tsall e7 =>
      rw [ec] at h1 kl
      simp only [Out.bnd] at h1
      obtain ⟨RD, f1, k1, d1⟩ := R1.lst (xs := []) hD
      have hz : tsall.length ≤ sizeL := by
        cases ed : o.1 with
        | nil => rw [ed] at ec; simp [compL] at ec; rw [ec.1]; simp
        | cons d ds => rw [ed] at ec; obtain ⟨t, e2, ts', _, _, rfl, hz⟩ := compL_cons ec; exact hz
      refine lc2_loop (w := w) (P := P) (F1 := F1) (fp0 := []) hsub hsub1 hso ec hz upd_same (RD.wipes own) ?_ fun xs fp FW H2 q1 q2 q3 q4 q5 => ?_
      · intro i F2 H2 s2 s3 k
        exact Wk i F2 H2 s2 s3 fun a ha => by rw [k a ha, k1 a (R1.lv a ha)]
      · have q5' : Prs P L1 H1 H2 := (R1.prs0 k1).trans q5
        have klo : KLo own e1 e7 := wipe_klo.trans kl
        have R7 := Rel.back R1 q4 own ho q3 (fun i hi => wipe_out hi) (wipe_length _ _) fun i hi t z => ?_
        · have R8 := lk.un R7 q4 (fun a ha => q5' a (.inr ha)) fun p hp => ⟨(back_kl klo).2 p.1 p.2 (hl p hp), rfl⟩
          exact h1 (.ref D) FW H2 ⟨D :: fp, .own (R7.outP D (by simp)).1 q1 q2, R8⟩ q4 (q5'.sub lk.sub)
        · exact compL_un cbody2_un ec (wipeE_un own e1) i hi t z
  · exact h1.elim
end
end Fx

set_option Elab.async false
set_option linter.all false
set_option maxRecDepth 100000
/-! Fx: comprehensions, the block's context. -/
namespace Fx
open PySem PySem.Spec PyProof.Rows L2
section
variable {tb : Tb} {w : Wd} {k : Nat} {sc ws : Scope} {X : Cx}
theorem Gd.blk (g : Gd tb w k sc ws X) (scope : Scope) (s : Shared) (H : Hp) (C : Addr) (cl : List (Str × Addr)) (fp : List Addr) : Gd tb w.calm k (relS scope sc) scope (X.blk s H scope (compEnvC scope cl C X.env) fp) where
  K := g.K
  kp := g.kp
  N := g.N
  nd := g.nd
  sc := by rw [← g.sc]; rfl
  calm := g.calm
  room := g.room
  takes := fun u s' h => by
    obtain ⟨_, _, _, _, _, _, _, _, _, _, _, _, _, _, _, _, z⟩ := h
    exact z.elim
  po := PassesOwn.never
  fns := fun i fn h => by
    obtain ⟨x, ps, e, ⟨q⟩⟩ := g.fns i fn h
    exact ⟨x, ps, e, ⟨q⟩⟩
  gts := g.gts
  blt := g.blt
  sto := fun x h => by
    rcases h with h | h
    · have := lookup_relS_keep (sc := X.env.scope) (k := .local) (by decide) h
      exact ⟨.inl this, .inr this⟩
    · have := lookup_relS_keep (sc := X.env.scope) (k := .cell) (by decide) h
      exact ⟨.inr this, .inl (by show (scope.names.lookup x == some .cell) = true; rw [h]; rfl)⟩
theorem nfold {e : Expr} {env : PySem.Env} (h : isSet e = false) : ∀ x, foldedSetIterable e env x = pure x := by
  intro x
  cases e <;> first | rfl | cases h
/-- what a comprehension's text must have -/
def compOk (tb : Tb) (sc scope : Scope) (ownp : List (Str × Nat)) (own : List Nat) (tg : Tg) (iter : Expr) : Bool :=
  blkC tb.N sc scope ownp && (decide (own = ownp.map (·.2)) && (tg.ix.all own.contains && !isSet iter))
theorem compOk_of {scope : Scope} {ownp : List (Str × Nat)} {own : List Nat} {tg : Tg} {iter : Expr} (g : Gd tb w k sc ws X) (h : compOk tb sc scope ownp own tg iter = true) : BlkOk X.N X.env.scope scope ownp ∧ own = ownp.map (·.2) ∧ (∀ i ∈ tg.ix, i ∈ own) ∧ isSet iter = false := by
  unfold compOk at h
  simp only [Bool.and_eq_true, decide_eq_true_eq, List.all_eq_true, List.contains_iff_mem, Bool.not_eq_true'] at h
  exact ⟨blkOk_by (by rw [g.N, g.sc]; exact h.1), h.2.1, h.2.2.1, h.2.2.2⟩
theorem pts_noneE : PTs X [] (tOt w .none) := ⟨fun pins s σ H Q I hw => by
  obtain ⟨G, L, P, e, F, R, h⟩ := hw
  exact pts_nil.run pins s σ H Q I (h true F H ⟨rfl, R⟩ (Same.refl _) Prs.refl)⟩
theorem pts_oneE {x : E} {y : Expr} (h : PT X y (tB w x)) : PTs X [y] (tOt w (.some x)) := ⟨fun pins s σ H Q I hw => (pts_one h).run pins s σ H Q I hw⟩
theorem pe_compE {ownp : List (Str × Nat)} {own : List Nat} {x : E} {tg : Tg} {it : It} {ifs : Oe} {elt tgx iter : Expr} {ifx : List Expr} {scope : Scope} {pos : Pos} (g : Gd tb w k sc ws X) (hc : compOk tb sc scope ownp own tg iter = true) (hi : PI X tgx iter (tIt w it))
    (hg : ∀ X', Gd tb w.calm k (relS scope sc) scope X' → PG X' tgx (tGt w.calm tg)) (ht : ∀ X', Gd tb w.calm k (relS scope sc) scope X' → PTs X' ifx (tOt w.calm ifs)) (he : ∀ X', Gd tb w.calm k (relS scope sc) scope X' → PE X' elt (tE w.calm x)) :
    PE X (.ListComp elt [⟨tgx, iter, ifx, 0⟩] scope pos) (tE w (.comp own x tg it ifs)) := by
  obtain ⟨h1, rfl, h3, h4⟩ := compOk_of g hc
  exact (pe_lc g.calm g.nd hi h1 (fun s H C cl fp => hg _ (g.blk scope s H C cl fp)) (fun s H C cl fp => ht _ (g.blk scope s H C cl fp)) (fun s H C cl fp => he _ (g.blk scope s H C cl fp)) (nfold h4)).imp' fun σ H Q h => lc_read h3 h
theorem pe_comp2E {ownp : List (Str × Nat)} {own own1 : List Nat} {x : E} {tg tg1 : Tg} {it it1 : It} {ifs ifs1 : Oe} {elt tgx iter tgx1 iter1 : Expr} {ifx ifx1 : List Expr} {scope : Scope} {pos : Pos} (g : Gd tb w k sc ws X) (hc : compOk tb sc scope ownp own tg iter = true)
    (hc1 : (own1.all own.contains && (tg1.ix.all own1.contains && !isSet iter1)) = true) (hi : PI X tgx iter (tIt w it))
    (hg : ∀ X', Gd tb w.calm k (relS scope sc) scope X' → PG X' tgx (tGt w.calm tg)) (ht : ∀ X', Gd tb w.calm k (relS scope sc) scope X' → PTs X' ifx (tOt w.calm ifs))
    (hi1 : ∀ X', Gd tb w.calm k (relS scope sc) scope X' → PI X' tgx1 iter1 (tIt w.calm it1)) (hg1 : ∀ X', Gd tb w.calm k (relS scope sc) scope X' → PG X' tgx1 (tGt w.calm tg1)) (ht1 : ∀ X', Gd tb w.calm k (relS scope sc) scope X' → PTs X' ifx1 (tOt w.calm ifs1))
    (he : ∀ X', Gd tb w.calm k (relS scope sc) scope X' → PE X' elt (tE w.calm x)) :
    PE X (.ListComp elt [⟨tgx, iter, ifx, 0⟩, ⟨tgx1, iter1, ifx1, 0⟩] scope pos) (tE w (.comp2 own x tg it ifs own1 tg1 it1 ifs1)) := by
  obtain ⟨h1, rfl, h3, h4⟩ := compOk_of g hc
  simp only [Bool.and_eq_true, List.all_eq_true, List.contains_iff_mem, Bool.not_eq_true'] at hc1
  exact (pe_lc2 g.calm g.nd hi h1 hc1.1 (fun s H C cl fp => hg _ (g.blk scope s H C cl fp)) (fun s H C cl fp => ht _ (g.blk scope s H C cl fp)) (fun s H C cl fp => hi1 _ (g.blk scope s H C cl fp)) (fun s H C cl fp => hg1 _ (g.blk scope s H C cl fp)) (fun s H C cl fp => ht1 _ (g.blk scope s H C cl fp))
    (fun s H C cl fp => he _ (g.blk scope s H C cl fp)) (nfold h4) (fun env => nfold hc1.2.2)).imp' fun σ H Q h => lc2_read h3 hc1.2.1 h
end
end Fx

set_option Elab.async false
set_option linter.all false
set_option maxRecDepth 100000
/-! Fx statements: what is locked stays. -/
namespace Fx
section
variable {C : Cf} {e e' e1 e2 : Env}
def LPs (e : Env) (o : Out Fl) : Prop := match o with
  | .ok (.rt _) _ => True
  | .ok _ e' => KL e e'
  | .exc _ _ e' => KL e e'
  | .bad => True
theorem LPs.pre {o : Out Fl} (h : KL e e1) (k : LPs e1 o) : LPs e o := by
  cases o with
  | ok fl e' => cases fl <;> first | trivial | exact h.trans k
  | exc c fs e' => exact h.trans k
  | bad => trivial
theorem LPs.bnd {α : Type} {o : Out α} {f : α → Env → Out Fl} (h : LP e o) (k : ∀ a e', LPs e' (f a e')) : LPs e (o.bnd f) := by
  cases o with
  | ok a e' => exact LPs.pre h (k a e')
  | exc c fs e' => exact h
  | bad => trivial
theorem lp_forL {f : D → Env → Out Fl} (h : ∀ d e, LPs e (f d e)) : ∀ (ds : List D) (e : Env), LPs e (forL f ds e)
  | [], e => KL.refl
  | d :: ds, e => by
    simp only [forL]
    have h1 := h d e
    cases q : f d e with
    | ok fl e1 =>
      rw [q] at h1
      cases fl with
      | nx => exact LPs.pre h1 (lp_forL h ds e1)
      | ct => exact LPs.pre h1 (lp_forL h ds e1)
      | bk => exact h1
      | rt t => trivial
    | exc c fs e1 => rw [q] at h1; exact h1
    | bad => trivial
theorem lp_whileL {c : Env → Out Bool} {f : Env → Out Fl} (hc : ∀ e, LP e (c e)) (h : ∀ e, LPs e (f e)) : ∀ (n : Nat) (e : Env), LPs e (whileL c f n e)
  | 0, e => trivial
  | n + 1, e => by
    simp only [whileL]
    refine LPs.bnd (hc e) fun k e1 => ?_
    cases k with
    | false => exact KL.refl
    | true =>
      have h1 := h e1
      simp only
      cases q : f e1 with
      | ok fl e2 =>
        rw [q] at h1
        cases fl with
        | nx => exact LPs.pre h1 (lp_whileL hc h n e2)
        | ct => exact LPs.pre h1 (lp_whileL hc h n e2)
        | bk => exact h1
        | rt t => trivial
      | exc c fs e2 => rw [q] at h1; exact h1
      | bad => trivial
theorem lp_evT (C : Cf) (x : E) (e : Env) : LP e (evT C x e) := by
  unfold evT
  refine (lp_ev C x e).bnd fun r e1 => ?_
  split <;> first | exact KL.refl | trivial
end
section
variable (C : Cf)
mutual
theorem lp_ex : ∀ (s : S) (e : Env), LPs e (ex C s e)
  | .ex x, e => by simp only [ex]; exact LPs.bnd (lp_ev C x e) fun _ e1 => KL.refl
  | .asg tg x, e => by
    simp only [ex]
    refine LPs.bnd (lp_ev C x e) fun r e1 => ?_
    split
    · rename_i hm
      split
      · rename_i ha; exact (kl_mv hm).trans (kl_asgT ha)
      · trivial
    · trivial
  | .sset o i x, e => by
    simp only [ex]
    refine LPs.bnd (lp_ev C x e).stl fun r e1 => LPs.bnd (lp_ev C o e1) fun ro e2 => ?_
    split
    · trivial
    · refine LPs.bnd (lp_ev C i _).ul fun ri e3 => ?_
      split
      · rename_i hm _
        split
        · rename_i es
          split
          · split
            · split
              · exact (kl_mv hm).trans (KL.setIs es)
              · trivial
            · trivial
          · trivial
        · trivial
      · trivial
  | .aug i op x, e => by
    simp only [ex]
    split
    · refine LPs.bnd (lp_ev C x e) fun r e1 => ?_
      split
      · rename_i es _
        split
        · exact KL.setIs es
        · exact KL.setIs es
        · trivial
      · trivial
    · trivial
  | .augS o i op x, e => by
    simp only [ex]
    refine LPs.bnd (lp_ev C o e) fun ro e1 => ?_
    split
    · trivial
    · refine LPs.bnd (lp_ev C i _).ul fun ri e2 => ?_
      split
      · split
        · split
          · split
            · split
              · refine LPs.bnd (lp_ev C x _).ul fun r e3 => ?_
                split
                · rename_i es
                  split
                  · split
                    · split
                      · exact KL.setIs es
                      · trivial
                    · trivial
                  · trivial
                · trivial
              · trivial
            · trivial
          · trivial
        · trivial
      · trivial
  | .ret x, e => by
    simp only [ex]
    refine LPs.bnd (lp_ev C x e) fun r e1 => ?_
    split <;> trivial
  | .retN, e => trivial
  | .ite c a b, e => by
    simp only [ex]
    refine LPs.bnd (lp_evT C c e) fun k e1 => ?_
    split
    · exact lp_exs a e1
    · exact lp_exs b e1
  | .forS tg it b, e => by
    simp only [ex]
    have hi := lp_evi C it e
    cases q : evi C it e with
    | exc c fs e1 => rw [q] at hi; exact hi
    | bad => trivial
    | ok o e1 =>
      rw [q] at hi
      rw [bnd_ok]
      have hl : LPs e1 (forL (fbody (fun e3 => exs C b e3) tg) o.1 e1) := lp_forL (fun d e2 => by
          unfold fbody
          split
          · trivial
          · rename_i e3 ha; exact LPs.pre (kl_asgT ha) (lp_exs b e3)) o.1 e1
      have hn : ∀ p ∈ o.2, ∀ t, e[p.1]? ≠ some (.lk t) := fun p hp => (hi.2 p hp).2
      revert hl
      generalize forL (fbody (fun e3 => exs C b e3) tg) o.1 e1 = oc
      intro hl
      cases oc with
      | ok fl e4 =>
        cases fl with
        | rt t => trivial
        | nx => exact kl_unlock hn (hi.1.trans hl)
        | bk => exact hi.1.trans hl
        | ct => exact hi.1.trans hl
      | exc c fs e4 => exact kl_unlock hn (hi.1.trans hl)
      | bad => trivial
  | .whileS c b, e => by
    simp only [ex]
    exact lp_whileL (fun e1 => lp_evT C c e1) (fun e1 => lp_exs b e1) _ _
  | .brk, e => KL.refl
  | .cnt, e => KL.refl
  | .pass, e => KL.refl
  | .bad, e => trivial
theorem lp_exs : ∀ (s : Ss) (e : Env), LPs e (exs C s e)
  | .nil, e => KL.refl
  | .cons s r, e => by
    simp only [exs]
    have h := lp_ex s e
    split
    · rename_i e1 q; rw [q] at h; exact LPs.pre h (lp_exs r e1)
    · rename_i q; rw [q] at h; exact h
    · rename_i q; rw [q] at h; exact h
    · trivial
end
end
end Fx

set_option Elab.async false
set_option linter.all false
set_option maxRecDepth 100000
/-! Fx statements. -/
namespace Fx
open PySem PySem.Spec PyProof.Rows L2
/-- locked slots hold what they held -/
structure LkS (kp : List Nat) (e : Env) (σ σ' : SSt) : Prop where
  lk : ∀ (i : Nat) (t : T), e[i]? = some (Sl.lk t) → σ'[i]? = σ[i]?
  kp : ∀ i ∈ kp, σ'[i]? = σ[i]?
theorem LkS.refl {kp : List Nat} {e : Env} {σ : SSt} : LkS kp e σ σ := ⟨fun _ _ _ => rfl, fun _ _ => rfl⟩
theorem LkS.trans {kp : List Nat} {e e1 : Env} {σ σ1 σ2 : SSt} (k : KL e e1) (a : LkS kp e σ σ1) (b : LkS kp e1 σ1 σ2) : LkS kp e σ σ2 := ⟨fun i t h => (b.lk i t (k.2 i t h)).trans (a.lk i t h), fun i h => (b.kp i h).trans (a.kp i h)⟩
/-- a statement's outcome as a reading -/
def PoS (w : Wd) (G : Gh) (L P : List Addr) (e : Env) (σ : SSt) (F H : Hp) (o : Out Fl) (D : Ends) : Prop := match o with
  | .ok (.rt t) e' => ∀ v F' σ' H' fp L', RT w.K F' H' v t fp → Rel w.K G L' (fp ++ P) e' F' σ' H' → Same F F' → Prs P L H H' → LkS w.kp e σ σ' → D.rt v H'
  | .ok .nx e' => ∀ F' σ' H', Rel w.K G L P e' F' σ' H' → Same F F' → Prs P L H H' → LkS w.kp e σ σ' → D.nx σ' H'
  | .ok .bk e' => ∀ F' σ' H', Rel w.K G L P e' F' σ' H' → Same F F' → Prs P L H H' → LkS w.kp e σ σ' → D.bk σ' H'
  | .ok .ct e' => ∀ F' σ' H', Rel w.K G L P e' F' σ' H' → Same F F' → Prs P L H H' → LkS w.kp e σ σ' → D.ct σ' H'
  | .exc c fs e' => ∀ F' σ' H' cls d, Rel w.K G L P e' F' σ' H' → XR w.K w.xt c fs F' H' cls d → Same F F' → Prs P L H H' → LkS w.kp e σ σ' → w.W cls d σ' H'
  | .bad => False
def tS (w : Wd) (s : S) : TS := fun D σ H => ∃ G L P e F, Rel w.K G L P e F σ H ∧ PoS w G L P e σ F H (ex w.C s e) D
def tSs (w : Wd) (s : Ss) : TS := fun D σ H => ∃ G L P e F, Rel w.K G L P e F σ H ∧ PoS w G L P e σ F H (exs w.C s e) D
theorem _root_.L2.PS.imp' {X : Cx} {x : Stmt} {t t' : TS} (h : PS X x t) (k : ∀ D σ H, t' D σ H → t D σ H) : PS X x t' := ⟨fun pins s σ H D I hw => h.run pins s σ H D I (k D σ H hw)⟩
theorem _root_.L2.PSs.imp' {X : Cx} {x : List Stmt} {t t' : TS} (h : PSs X x t) (k : ∀ D σ H, t' D σ H → t D σ H) : PSs X x t' := ⟨fun pins s σ H D I hw => h.run pins s σ H D I (k D σ H hw)⟩
section
variable {w : Wd} {G : Gh} {L P : List Addr} {σ σ1 : SSt} {F F1 H H1 : Hp} {e e1 : Env} {D : Ends}
theorem PoS.base {o : Out Fl} (h : PoS w G L P e σ F H o D) (s : Same F F1) (p : Prs P L H H1) (k : KL e e1) (l : LkS w.kp e σ σ1) : PoS w G L P e1 σ1 F1 H1 o D := by
  cases o with
  | ok fl e' =>
    cases fl with
    | rt t => exact fun v F' σ' H' fp L' r R s2 p2 l2 => h v F' σ' H' fp L' r R (s.trans s2) (p.trans p2) (l.trans k l2)
    | nx => exact fun F' σ' H' R s2 p2 l2 => h F' σ' H' R (s.trans s2) (p.trans p2) (l.trans k l2)
    | bk => exact fun F' σ' H' R s2 p2 l2 => h F' σ' H' R (s.trans s2) (p.trans p2) (l.trans k l2)
    | ct => exact fun F' σ' H' R s2 p2 l2 => h F' σ' H' R (s.trans s2) (p.trans p2) (l.trans k l2)
  | exc c fs e' => exact fun F' σ' H' cls d R x s2 p2 l2 => h F' σ' H' cls d R x (s.trans s2) (p.trans p2) (l.trans k l2)
  | bad => exact h
/-- an expression ahead -/
theorem PoS.ofE {α β : Type} {rep : α → Env → Hp → Hp → β → Prop} {o : Out α} {f : α → Env → Out Fl} {Q' : β → Hp → Prop} (h : PoS w G L P e σ F H (o.bnd f) D) (lp : LP e o)
    (k : ∀ a e' b F' H', o = .ok a e' → rep a e' F' H' b → Same F F' → Prs P L H H' → KL e e' → PoS w G L P e' σ F' H' (f a e') D → Q' b H') : Po w G L P σ rep F H o Q' := by
  cases o with
  | ok a e' => exact fun b F2 H2 r s2 p2 => k a e' b F2 H2 rfl r s2 p2 lp (PoS.base h s2 p2 lp LkS.refl)
  | exc c fs e' => exact fun F' H' cls d R x s p => h F' σ H' cls d R x s p LkS.refl
  | bad => exact h.elim
theorem asgT_free : ∀ {tg : Tg} {t : T} {e e' : Env}, asgT tg t e = some e' → ∀ i ∈ tg.ix, ∀ u, e[i]? ≠ some (.lk u)
  | .n i, t, e, e', h, j, hj, u => by
    simp [Tg.ix] at hj; subst hj
    simp only [asgT] at h
    split at h
    · cases h
    · rename_i s hn es; exact fun z => hn u (by rw [es] at z; exact Option.some.inj z)
    · cases h
  | .t2 a b, t, e, e', h, j, hj, u => by
    simp only [Tg.ix, List.mem_append] at hj
    rcases mkKids (x := .fz .non) (y := .fz .non) h with ⟨x, y, _, e1, a1, a2⟩ | ⟨x, y, _, e1, a1, a2⟩
    · rcases hj with hj | hj
      · exact asgT_free a1 j hj u
      · exact fun z => asgT_free a2 j hj u ((kl_asgT a1).2 j u z)
    · rcases hj with hj | hj
      · exact asgT_free a1 j hj u
      · exact fun z => asgT_free a2 j hj u ((kl_asgT a1).2 j u z)
  | .t3 a b c, t, e, e', h, j, hj, u => by
    simp only [Tg.ix, List.mem_append] at hj
    have go : ∀ {t1 t2 t3 : T} {e1 e2 : Env}, asgT a t1 e = some e1 → asgT b t2 e1 = some e2 → asgT c t3 e2 = some e' → e[j]? ≠ some (.lk u) := fun {t1 t2 t3 e1 e2} a1 a2 a3 => by
      rcases hj with hj | hj | hj
      · exact asgT_free a1 j hj u
      · exact fun z => asgT_free a2 j hj u ((kl_asgT a1).2 j u z)
      · exact fun z => asgT_free a3 j hj u ((kl_asgT a2).2 j u ((kl_asgT a1).2 j u z))
    simp only [asgT] at h
    split at h
    · split at h
      · rename_i e1 a1
        split at h
        · rename_i e2 a2; exact go a1 a2 h
        · cases h
      · cases h
    · split at h
      · rename_i e1 a1
        split at h
        · rename_i e2 a2; exact go a1 a2 h
        · cases h
      · cases h
    · cases h
end
section
variable {tb : Tb} {w : Wd} {k : Nat} {sc ws : Scope} {X : Cx}
/-! ### one after another -/
theorem pss_nilE : PSs X [] (tSs w .nil) := pss_nil.imp' fun D σ H ⟨G, L, P, e, F, R, h⟩ => h F σ H R (Same.refl _) Prs.refl LkS.refl
theorem pss_consE {s : S} {r : Ss} {st : Stmt} {rest : List Stmt} (h1 : PS X st (tS w s)) (h2 : PSs X rest (tSs w r)) : PSs X (st :: rest) (tSs w (.cons s r)) := by
  refine (pss_cons h1 h2).imp' fun D σ H ⟨G, L, P, e, F, R, h⟩ => ⟨G, L, P, e, F, R, ?_⟩
  simp only [exs] at h
  have lp := lp_ex w.C s e
  cases q : ex w.C s e with
  | ok fl e1 =>
    rw [q] at h lp
    cases fl with
    | nx => exact fun F' σ' H' R' s' p' l' => ⟨G, L, P, e1, F', R', PoS.base h s' p' lp l'⟩
    | rt t => exact h
    | bk => exact h
    | ct => exact h
  | exc c fs e1 => rw [q] at h; exact h
  | bad => rw [q] at h; exact h.elim
/-! ### the simple ones -/
def nComp : Expr → Bool
  | .ListComp .. => false
  | .SetComp .. => false
  | .DictComp .. => false
  | _ => true
theorem nComp_swaps {e : Expr} {t : Option Expr} {l : Nat} {env : PySem.Env} (h : nComp e = true) : swapsWith e t l env = pure false := by
  cases e <;> first | rfl | cases h
theorem ps_exprE {x : E} {y : Expr} {pos : Pos} (hx : PE X y (tE w x)) (hn : nComp y = true) : PS X (.Expr y pos) (tS w (.ex x)) := by
  refine (ps_expr hx (nComp_swaps hn)).imp' fun D σ H ⟨G, L, P, e, F, R, h⟩ => ?_
  simp only [ex] at h
  exact ⟨G, L, P, e, F, R, PoS.ofE h (lp_ev w.C x e) fun r e1 v F1 H1 _ R1 s1 p1 k1 h1 => h1 F1 σ H1 (RR.rel' R1) (Same.refl _) Prs.refl LkS.refl⟩
theorem ps_docE {x : Str} {j : Nat} {pos pos' : Pos} : PS X (.Expr (.Constant (.str x) j pos) pos') (tS w .pass) := ps_doc.imp' fun D σ H ⟨G, L, P, e, F, R, h⟩ => h F σ H R (Same.refl _) Prs.refl LkS.refl
theorem ps_passE {pos : Pos} : PS X (.Pass pos) (tS w .pass) := ps_pass.imp' fun D σ H ⟨G, L, P, e, F, R, h⟩ => h F σ H R (Same.refl _) Prs.refl LkS.refl
theorem ps_brkE {pos : Pos} : PS X (.Break pos) (tS w .brk) := ps_break.imp' fun D σ H ⟨G, L, P, e, F, R, h⟩ => h F σ H R (Same.refl _) Prs.refl LkS.refl
theorem ps_cntE {pos : Pos} : PS X (.Continue pos) (tS w .cnt) := ps_continue.imp' fun D σ H ⟨G, L, P, e, F, R, h⟩ => h F σ H R (Same.refl _) Prs.refl LkS.refl
theorem ps_badE {st : Stmt} : PS X st (tS w .bad) := ps_never.imp' fun D σ H ⟨G, L, P, e, F, R, h⟩ => h
theorem ps_retNE {pos : Pos} : PS X (.Return none pos) (tS w .retN) := ps_retN.imp' fun D σ H ⟨G, L, P, e, F, R, h⟩ => h .non F σ H [] L (.fz .non) R (Same.refl _) Prs.refl LkS.refl
theorem RR.out {G : Gh} {L P : List Addr} {σ : SSt} {F H : Hp} {e e' : Env} {r : R} {v : V} {t : T} (R : RR w.K G L P σ r e F H v) (h : outT r e = some (t, e')) : ∃ F' fp, Same F F' ∧ RT w.K F' H v t fp ∧ Rel w.K G L (fp ++ P) e' F' σ H := by
  have gen : Fx.mv r e = some (t, e') → ∃ F' fp, Same F F' ∧ RT w.K F' H v t fp ∧ Rel w.K G L (fp ++ P) e' F' σ H := fun h => by
    obtain ⟨F', fp, a, b, c⟩ := RR.mv R h
    exact ⟨F', fp, a, b, c⟩
  unfold outT at h
  split at h
  · rename_i i
    split at h
    · rename_i t0 es
      simp at h
      obtain ⟨rfl, rfl⟩ := h
      obtain ⟨h1, v0, h2, h3⟩ := R
      cases h3
      obtain ⟨fp, g1, g2, g4, g3⟩ := h1.env
      obtain ⟨o, A, q, B, a1, rfl, ⟨v', rfl, a3, a4⟩, a5⟩ := g1.at es
      rw [h2] at a1; cases a1
      have re := a5 (F' := F) (H' := H) (L' := L) (s' := .un) (o' := some v) (q' := []) (fun r _ => r) (fun _ _ => Iff.rfl) rfl
      rw [set_same h2] at re
      have pm : ((q ++ P) ++ (A ++ [] ++ B)).Perm (P ++ (A ++ q ++ B)) := by
        apply List.perm_iff_count.mpr
        intro b
        simp only [List.count_append, List.count_nil]
        omega
      refine ⟨F, q, Same.refl F, a3, h1.same, ⟨_, re, nd_perm pm.symm g2, fun a ha => ?_, fun a ha => g3 a (pm.mem_iff.mp ha)⟩, h1.tups, h1.sub, h1.new, h1.frm, h1.live, h1.lv⟩
      rcases List.mem_append.mp ha with z | z
      · exact a4 a z
      · exact g4 a z
    · cases h
  · exact gen h
theorem ps_retE {x : E} {y : Expr} {pos : Pos} (hx : PE X y (tE w x)) : PS X (.Return (some y) pos) (tS w (.ret x)) := by
  refine (ps_ret hx).imp' fun D σ H ⟨G, L, P, e, F, R, h⟩ => ?_
  simp only [ex] at h
  refine ⟨G, L, P, e, F, R, PoS.ofE h (lp_ev w.C x e) fun r e1 v F1 H1 _ R1 s1 p1 k1 h1 => ?_⟩
  have R1 : RR w.K G L P σ r e1 F1 H1 v := R1
  cases eo : outT r e1 with
  | none => rw [eo] at h1; exact h1.elim
  | some p =>
    obtain ⟨t, e2⟩ := p
    rw [eo] at h1
    obtain ⟨F2, fp, s2, r2, R2⟩ := RR.out R1 eo
    exact h1 v F2 σ H1 fp L r2 R2 s2 Prs.refl LkS.refl
theorem ps_ifE {c : E} {a b : Ss} {y : Expr} {xs ys : List Stmt} {pos : Pos} (hc : PT X y (tB w c)) (ha : PSs X xs (tSs w a)) (hb : PSs X ys (tSs w b)) : PS X (.If y xs ys pos) (tS w (.ite c a b)) := by
  refine (ps_if hc ha hb).imp' fun D σ H ⟨G, L, P, e, F, R, h⟩ => ?_
  simp only [ex] at h
  refine ⟨G, L, P, e, F, R, PoS.ofE h (lp_evT w.C c e) fun k e1 b F1 H1 _ ⟨eb, R1⟩ s1 p1 k1 h1 => ?_⟩
  subst eb
  cases b with
  | true => simp only [if_true] at h1 ⊢; exact ⟨G, L, P, e1, F1, R1, h1⟩
  | false => simp only [Bool.false_eq_true, if_false] at h1 ⊢; exact ⟨G, L, P, e1, F1, R1, h1⟩
/-- behind the value of an assignment -/
theorem asg_run {G : Gh} {L P : List Addr} {σ : SSt} {F H : Hp} {e : Env} {tg : Tg} {r : R} {v : V} {D : Ends} (hkp : ∀ i ∈ tg.ix, i ∉ w.kp) (R : RR w.K G L P σ r e F H v) (h : PoS w G L P e σ F H (match mv r e with
    | some (t, e2) => (match asgT tg t e2 with
      | some e3 => .ok .nx e3
      | none => .bad)
    | none => .bad) D) : tGt w tg v σ H D.nx := by
  cases em : mv r e with
  | none => rw [em] at h; exact h.elim
  | some p =>
    obtain ⟨t, e2⟩ := p
    rw [em] at h
    simp only at h
    cases ea : asgT tg t e2 with
    | none => rw [ea] at h; exact h.elim
    | some e3 =>
      rw [ea] at h
      obtain ⟨F2, fp, s2, r2, R2⟩ := R.mv em
      exact ⟨G, L, P, e2, F2, t, fp, e3, r2, R2, ea, fun σ' R' k l => h F2 σ' H R' s2 Prs.refl ⟨fun i u hi => k i fun z => asgT_free ea i z u ((kl_mv em).2 i u hi), fun i hi => k i fun z => hkp i z hi⟩⟩
theorem ps_asgE {tg : Tg} {x : E} {tx y : Expr} {pos : Pos} (g : Gd tb w k sc ws X) (hx : PE X y (tE w x)) (ht : tgOk tb ws tg tx = true) (hs : swapsWithSole [tx] y pos.line X.env = pure false) (hw : swappedStores [tx] y X.env = pure none) : PS X (.Assign [tx] y pos) (tS w (.asg tg x)) := by
  refine (ps_asg hx (pg_of g tg tx ht) hs hw (by rw [nStar_tg ht]; rfl)).imp' fun D σ H ⟨G, L, P, e, F, R, h⟩ => ?_
  simp only [ex] at h
  exact ⟨G, L, P, e, F, R, PoS.ofE h (lp_ev w.C x e) fun r e1 v F1 H1 _ R1 s1 p1 k1 h1 => asg_run (fun i hi => by rw [g.kp]; exact tgOk_kp ht i hi) R1 h1⟩
end
end Fx

set_option Elab.async false
set_option linter.all false
set_option maxRecDepth 100000
/-! Fx statements: loops. -/
namespace Fx
open PySem PySem.Spec PyProof.Rows L2
section
variable {tb : Tb} {w : Wd} {k : Nat} {sc ws : Scope} {X : Cx}
theorem for_read {tg : Tg} {it : It} {b : Ss} {D : Ends} {σ : SSt} {H : Hp} (hkp : ∀ i ∈ tg.ix, i ∉ w.kp) (h : tS w (.forS tg it b) D σ H) : tFor (tIt w it) (tGt w tg) (tSs w b) D σ H := by
  obtain ⟨G, L, P, e, F, R, h⟩ := h
  simp only [ex] at h
  refine ⟨G, L, P, e, F, R, PoS.ofE h (lp_evi w.C it e).lp fun o e1 J F1 H1 eo hJ s1 p1 k1 h1 => ?_⟩
  obtain ⟨L1, lk, R1, hl, Wk⟩ := hJ
  have unl : ∀ {e4 : Env} {F' H' : Hp} {σ' : SSt}, Rel w.K G L1 P e4 F' σ' H' → Same F1 F' → Prs P L1 H1 H' → KL e1 e4 → LkS w.kp e1 σ σ' → Rel w.K G L P (unlock o.2 e4) F' σ' H' := fun {e4 F' H' σ'} R' s p kl ls =>
    lk.un R' s (fun a ha => p a (.inr ha)) fun q hq => ⟨kl.2 q.1 q.2 (hl q hq), ls.lk q.1 q.2 (hl q hq)⟩
  refine ⟨fun i m σ2 H2 => m = o.1.length - i ∧ i ≤ o.1.length ∧ ∃ e2 F2, Rel w.K G L1 P e2 F2 σ2 H2 ∧ KL e1 e2 ∧ LkS w.kp e1 σ σ2 ∧ Same F1 F2 ∧ Prs P L1 H1 H2 ∧ PoS w G L P e1 σ F1 H1 (forEnd o.2 (forL (fbody (fun e3 => exs w.C b e3) tg) (o.1.drop i) e2)) D,
    ⟨o.1.length, by simp, Nat.zero_le _, e1, F1, R1, KL.refl, LkS.refl, Same.refl _, Prs.refl, by simpa using h1⟩, ?_⟩
  rintro i m σ2 H2 ⟨rfl, hi, e2, F2, R2, k2, l2, s2, p2, h2⟩
  have wk := Wk i F2 H2 s2 R2.same fun a ha => p2 a (.inr ha)
  by_cases hlt : i < o.1.length
  · obtain ⟨d, hd⟩ : ∃ d, o.1[i]? = some d := ⟨_, List.getElem?_eq_getElem hlt⟩
    obtain ⟨hgo, hy⟩ := wk.1 d hd
    rw [drop_cons hd] at h2
    simp only [forL, fbody] at h2
    cases ea : asgT tg (.fz d) e2 with
    | none => rw [ea] at h2; exact h2.elim
    | some e3 =>
      rw [ea] at h2
      simp only at h2
      have k3 := kl_asgT ea
      refine .inr ⟨hgo, fun σ' H' => ∃ e2 F2, Rel w.K G L1 P e2 F2 σ' H' ∧ KL e1 e2 ∧ LkS w.kp e1 σ σ' ∧ Same F1 F2 ∧ Prs P L1 H1 H' ∧ PoS w G L P e1 σ F1 H1 (forEnd o.2 (forL (fbody (fun e3 => exs w.C b e3) tg) (o.1.drop (i + 1)) e2)) D,
        fun σ' H' ⟨e4, F4, q⟩ => ⟨o.1.length - (i + 1), by omega, rfl, hlt, e4, F4, q⟩, fun z H' y => ?_⟩
      obtain ⟨F3, s3, ⟨fpz, rz, Rz⟩, p3⟩ := (hy z H' y).rr R2
      cases rz with
      | fz rz =>
      refine ⟨G, L1, P, e2, F3, .fz d, [], e3, .fz rz, Rz, ea, fun σ3 R3 q3 ql => ⟨G, L1, P, e3, F3, R3, ?_⟩⟩
      have l3 : LkS w.kp e2 σ2 σ3 := ⟨fun j u hj => q3 j fun zz => asgT_free ea j zz u hj, fun j hj => q3 j fun zz => hkp j zz hj⟩
      have lp := lp_exs w.C b e3
      have all : ∀ {e4 : Env} {F' H'' : Hp} {σ' : SSt}, KL e3 e4 → Same F3 F' → Prs P L1 H' H'' → LkS w.kp e3 σ3 σ' → KL e1 e4 ∧ LkS w.kp e1 σ σ' ∧ Same F1 F' ∧ Prs P L1 H1 H'' := fun {e4 F' H'' σ'} a b c d =>
        ⟨k2.trans (k3.trans a), l2.trans k2 (l3.trans k3 d), s2.trans (s3.trans b), p2.trans (p3.trans c)⟩
      cases q : exs w.C b e3 with
      | ok fl e4 =>
        rw [q] at h2 lp
        cases fl with
        | nx => exact fun F' σ' H'' R' a b c => by obtain ⟨x1, x2, x3, x4⟩ := all lp a b c; exact ⟨e4, F', R', x1, x2, x3, x4, h2⟩
        | ct => exact fun F' σ' H'' R' a b c => by obtain ⟨x1, x2, x3, x4⟩ := all lp a b c; exact ⟨e4, F', R', x1, x2, x3, x4, h2⟩
        | bk => exact fun F' σ' H'' R' a b c => by
                  obtain ⟨x1, x2, x3, x4⟩ := all lp a b c
                  exact h2 F' σ' H'' (unl R' x3 x4 x1 x2) x3 (x4.sub lk.sub) x2
        | rt t => exact fun v F' σ' H'' fp L' r R' a b c => h2 v F' σ' H'' fp L' r R' (s2.trans (s3.trans a)) ((p2.trans (p3.trans b)).sub lk.sub) (l2.trans k2 (l3.trans k3 c))
      | exc c fs e4 =>
        rw [q] at h2 lp
        exact fun F' σ' H'' cls dd R' x a b c => by
          obtain ⟨x1, x2, x3, x4⟩ := all lp a b c
          exact h2 F' σ' H'' cls dd (unl R' x3 x4 x1 x2) x x3 (x4.sub lk.sub) x2
      | bad => rw [q] at h2; exact h2.elim
  · have : i = o.1.length := by omega
    subst this
    rw [List.drop_length] at h2
    simp only [forL, forEnd] at h2
    exact .inl ⟨wk.2 (Nat.le_refl _), h2 F2 σ2 H2 (unl R2 s2 p2 k2 l2) s2 (p2.sub lk.sub) l2⟩
theorem ps_forE {tg : Tg} {it : It} {b : Ss} {tx iter : Expr} {body : List Stmt} {pos : Pos} (g : Gd tb w k sc ws X) (hi : PI X tx iter (tIt w it)) (ht : tgOk tb ws tg tx = true) (hb : PSs X body (tSs w b)) (hs : isSet iter = false) : PS X (.For tx iter body [] pos) (tS w (.forS tg it b)) :=
  (ps_for g.po g.calm hi (pg_of g tg tx ht) hb (nfold hs)).imp' fun D σ H h => for_read (fun i hi => by rw [g.kp]; exact tgOk_kp ht i hi) h
theorem while_read {c : E} {b : Ss} {D : Ends} {σ : SSt} {H : Hp} (h : tS w (.whileS c b) D σ H) : tWhile (tB w c) (tSs w b) D σ H := by
  obtain ⟨G, L, P, e, F, R, h⟩ := h
  simp only [ex] at h
  refine ⟨fun m σ2 H2 => ∃ e2 F2, Rel w.K G L P e2 F2 σ2 H2 ∧ PoS w G L P e2 σ2 F2 H2 (whileL (fun e1 => evT w.C c e1) (fun e1 => exs w.C b e1) m e2) D, ⟨w.C.wf, e, F, R, h⟩, ?_⟩
  rintro m σ2 H2 ⟨e2, F2, R2, h2⟩
  cases m with
  | zero => exact h2.elim
  | succ m =>
    simp only [whileL] at h2
    refine ⟨G, L, P, e2, F2, R2, PoS.ofE h2 (lp_evT w.C c e2) fun kk e3 bb F3 H3 _ ⟨eb, R3⟩ s3 p3 k3 h3 => ?_⟩
    subst eb
    cases bb with
    | false => simp only [Bool.false_eq_true, if_false]; exact h3 F3 σ2 H3 R3 (Same.refl _) Prs.refl LkS.refl
    | true =>
      simp only [if_true]
      simp only at h3
      refine ⟨fun σ' H' => ∃ e2 F2, Rel w.K G L P e2 F2 σ' H' ∧ PoS w G L P e2 σ' F2 H' (whileL (fun e1 => evT w.C c e1) (fun e1 => exs w.C b e1) m e2) D, fun σ' H' q => ⟨m, Nat.lt_succ_self m, q⟩, G, L, P, e3, F3, R3, ?_⟩
      have lp := lp_exs w.C b e3
      cases q : exs w.C b e3 with
      | ok fl e4 =>
        rw [q] at h3 lp
        cases fl with
        | nx => exact fun F' σ' H' R' a b c => ⟨e4, F', R', PoS.base h3 a b lp c⟩
        | ct => exact fun F' σ' H' R' a b c => ⟨e4, F', R', PoS.base h3 a b lp c⟩
        | bk => exact h3
        | rt t => exact h3
      | exc c fs e4 => rw [q] at h3; exact h3
      | bad => rw [q] at h3; exact h3.elim
theorem ps_whileE {c : E} {b : Ss} {y : Expr} {body : List Stmt} {pos : Pos} (g : Gd tb w k sc ws X) (hc : PT X y (tB w c)) (hb : PSs X body (tSs w b)) : PS X (.While y body [] pos) (tS w (.whileS c b)) :=
  (ps_while g.po hc hb).imp' fun D σ H h => while_read h
end
end Fx

set_option Elab.async false
set_option linter.all false
set_option maxRecDepth 100000
/-! Fx statements: stores into lists, augmented ones. -/
namespace Fx
open PySem PySem.Spec PyProof.Rows L2
section
variable {w : Wd} {G : Gh} {L P : List Addr} {σ : SSt} {F F' H H' : Hp} {e e' : Env} {D : Ends}
def rpN (w : Wd) (G : Gh) (L P : List Addr) (σ : SSt) : Fl → Env → Hp → Hp → Unit → Prop := fun fl e F H _ => fl = .nx ∧ Rel w.K G L P e F σ H
theorem PoS.toPo {o : Out Fl} (h : PoS w G L P e σ F H o D) : Po w G L P σ (rpN w G L P σ) F H o (fun _ H' => D.nx σ H') := by
  cases o with
  | ok fl e' =>
    intro b F' H' r s p
    obtain ⟨rfl, R⟩ := r
    exact h F' σ H' R s p LkS.refl
  | exc c fs e' => exact fun F' H' cls d R x s p => h F' σ H' cls d R x s p LkS.refl
  | bad => exact h
/-- one more operand, not settled -/
theorem Po.nextU {α' β' : Type} {rep' : α' → Env → Hp → Hp → β' → Prop} {rs : List R} {vs : List V} {x : E} {f : R → Env → Out α'} {Q : β' → Hp → Prop} {Q' : V → Hp → Prop} (hR : RRs w.K G L P σ rs e F H vs)
    (h : Po w G L P σ rep' F H ((ev w.C x e).bnd f) Q) (k : ∀ r e' v F' H' fps, Pd w.K F' H' σ rs vs fps → RR w.K G L (fps ++ P) σ r e' F' H' v → Same F F' → Prs P L H H' → Po w G L P σ rep' F' H' (f r e') Q → Q' v H') : tE w x σ H Q' := by
  obtain ⟨fps, hp, R⟩ := hR
  refine ⟨G, L, fps ++ P, e, F, R, ?_⟩
  cases eo : ev w.C x e with
  | ok a e' =>
    intro v F2 H2 rr s2 p2
    rw [eo] at h
    have rr : RR w.K G L (fps ++ P) σ a e' F2 H2 v := rr
    have p3 : Prs P L H H2 := p2.less fun x m => by simp [m]
    exact k a e' v F2 H2 fps (hp.frame s2 fun a ha => ⟨((RR.rel' rr).outP a (by simp [ha])).1, p2 a (.inl (by simp [ha]))⟩) rr s2 p3 (Po.base h s2 p3)
  | exc c fs e' =>
    rw [eo] at h
    exact fun F' H' cls d r x s p => h F' H' cls d (Rel.drop r) x s (p.less fun x m => by simp [m])
  | bad => rw [eo] at h; exact h.elim
/-- t is stored at the item n of the list at ro -/
def ssetF (ri ro r : R) (e3 : Env) : Out Fl := match rd e3 ri, mv r e3, ro with
  | some (.int n), some (t, e4), .p j ks => (match e4[j]? with
    | some (.is u) => (match getP u ks with
      | some (.own ts) => (match ixN ts.length n with
        | some k => (match setP u ks (.own (ts.set k t)) with
          | some u' => .ok .nx (e4.set j (.is u'))
          | none => .bad)
        | none => .bad)
      | _ => .bad)
    | _ => .bad)
  | _, _, _ => .bad
theorem ssetF_run {ri ro r : R} {x o i : V} {Q : Unit → Hp → Prop} (Rx : RRs w.K G L P σ [r] e F H [x]) (hi : ∀ n, rd e ri = some (.int n) → i = .int n) (ho : ∀ j ks, ro = .p j ks → ∃ v0, σ[j]? = some (some v0) ∧ At H v0 ks o) (h : Po w G L P σ (rpN w G L P σ) F H (ssetF ri ro r e) Q) : rSetL o i x H fun H4 => Q () H4 := by
  unfold ssetF at h
  split at h
  · rename_i n t e4 j ks er em
    obtain ⟨v0, hv, hat⟩ := ho j ks rfl
    have hi' := hi n er
    subst hi'
    have R0 := Rx.toRR
    obtain ⟨F1, fpt, s1, rt, R1⟩ := R0.mv em
    cases es : e4[j]? with
    | none => rw [es] at h; exact h.elim
    | some sl =>
      rw [es] at h
      cases sl with
      | un => exact h.elim
      | lk _ => exact h.elim
      | is u =>
        simp only at h
        cases eg : getP u ks with
        | none => rw [eg] at h; exact h.elim
        | some u2 =>
          rw [eg] at h
          cases u2 with
          | fz _ => exact h.elim
          | ownd _ => exact h.elim
          | tup _ => exact h.elim
          | own ts =>
            simp only at h
            obtain ⟨l, xs, fpts, rfl, hl, hs, hn, put⟩ := R1.put es hv eg hat
            simp only [List.mem_append, not_or] at hn
            cases ei : ixN ts.length n with
            | none => rw [ei] at h; exact h.elim
            | some k =>
              rw [ei] at h
              simp only at h
              cases ep : setP u ks (.own (ts.set k t)) with
              | none => rw [ep] at h; exact h.elim
              | some u' =>
                rw [ep] at h
                have hx : L2.ixN xs.length n = some k := by rw [hs.len]; exact ei
                obtain ⟨_, i2, _, _⟩ := ixN_seq hx
                obtain ⟨tk, ek⟩ : ∃ tk, ts[k]? = some tk := ⟨_, List.getElem?_eq_getElem (by rw [← hs.len]; exact i2)⟩
                obtain ⟨v', A, q, B, m1, rfl, m3, m4⟩ := hs.at ek
                have hA : ∀ a ∈ A ++ B, a ≠ l := fun a ha z => hn.1 (by subst z; simp at ha ⊢; rcases ha with z | z <;> simp [z])
                have hrs := m4 (F' := F1) (H' := upd H l (.lst (xs.set k x))) (v' := x) (u := t) (q' := fpt) (fun r hs => r.frame (Same.refl _) fun a ha => ⟨(r.mem a ha).1, upd_ne (hA a (hs a ha))⟩) (rt.up hn.2.1)
                obtain ⟨R2, p2⟩ := put (xs' := xs.set k x) (fp' := A ++ fpt ++ B) (Qr := []) (rest := q) ep hrs (by
                  apply List.perm_iff_count.mpr
                  intro c
                  simp only [List.count_append, List.count_nil]
                  omega)
                exact ⟨l, xs, n, k, rfl, rfl, hl, hx, h () F1 _ ⟨rfl, R2⟩ s1 p2⟩
  · exact h.elim
end
section
variable {tb : Tb} {w : Wd} {k : Nat} {sc ws : Scope} {X : Cx}
theorem ex_sset {C : Cf} {o i x : E} {e : Env} : ex C (.sset o i x) e = (ev C x e).stl.bnd fun r e1 => (ev C o e1).bnd fun ro e2 => if !(okL ro e2 && isL ro e2) then .bad else ((ev C i (lockR ro e2).2).ul (lockR ro e2).1).bnd fun ri e3 => ssetF ri ro r e3 := by
  simp only [ex]
  rfl
def nSlice : Expr → Bool
  | .Slice _ _ _ _ => false
  | _ => true
theorem nSlice_ix {y : Expr} (h : nSlice y = true) : PlainIx y := fun o i => by cases y <;> first | rfl | cases h
theorem Pd.one {K : PySem.W.Frag} {G : Gh} {L P Q0 : List Addr} {σ : SSt} {e : Env} {F F1 H H1 : Hp} {rs : List R} {vs : List V} {fps : List Addr} (h : Pd K F H σ rs vs fps) (R : Rel K G L (Q0 ++ (fps ++ P)) e F1 σ H1) (s : Same F F1) (k : ∀ a ∈ fps, H1 a = H a) : RRs K G L P σ rs e F1 H1 vs :=
  ⟨fps, h.frame s fun a ha => ⟨(R.outP a (by simp [ha])).1, k a ha⟩, R.drop⟩
theorem sset_read {o i x : E} {D : Ends} {σ : SSt} {H : Hp} (h : tS w (.sset o i x) D σ H) : tAsg (tE w x) (gSub (tE w o) (tE w i) rSetL) D σ H := by
  obtain ⟨G, L, P, e, F, R, h⟩ := h
  rw [ex_sset] at h
  refine Po.next (RRs.nil R) h.toPo fun r e1 v F1 H1 R1 s1 p1 h1 => ?_
  have R1 : RRs w.K G L P σ [r] e1 F1 H1 [v] := R1
  refine Po.nextU R1 h1 fun ro e2 ov F2 H2 fps hp R2 s2 p2 h2 => ?_
  split at h2
  · exact h2.elim
  · rename_i hk
    simp only [Bool.not_eq_true, Bool.not_eq_false', Bool.and_eq_true] at hk
    obtain ⟨Q0, L1, A1, lk, A2, _, later⟩ := R2.ready2 hk.1 hk.2
    have A2' : Rel w.K G L1 ((Q0 ++ fps) ++ P) (lockR ro e2).2 F2 σ H2 := by rw [List.append_assoc]; exact A2
    refine ⟨G, L1, (Q0 ++ fps) ++ P, (lockR ro e2).2, F2, A2', Po.ul lk (LP.holds (lp_ev _ i _)) h2 fun ri e3 iv F3 H3 eq R3 s3 p3 hl h3 => ?_⟩
    have R3 : RR w.K G L1 ((Q0 ++ fps) ++ P) σ ri e3 F3 H3 iv := R3
    have R4 := R3.un lk s3 (fun a ha => p3 a (.inr ha)) hl
    have p3' : Prs (Q0 ++ (fps ++ P)) L1 H2 H3 := by rw [← List.append_assoc]; exact p3
    have Rr : RRs w.K G L P σ [r] (unlock (lockR ro e2).1 e3) F3 H3 [v] := hp.one (Q0 := Q0) (by rw [← List.append_assoc]; exact R4.rel') s3 fun a ha => p3 a (.inl (by simp [ha]))
    exact ssetF_run Rr (fun n hn => by have := R4.rd hn; cases this; rfl) (fun j ks er => later er p3') h3
theorem ps_ssetE {o i x : E} {ox ix y : Expr} {tpos pos : Pos} (g : Gd tb w k sc ws X) (ho : PE X ox (tE w o)) (hi : PE X ix (tE w i)) (hx : PE X y (tE w x)) (hn : nSlice ix = true) : PS X (.Assign [.Subscript ox ix tpos] y pos) (tS w (.sset o i x)) := by
  refine (ps_asg hx (pg_sub (pos := tpos) ho hi set_list (fun v => by cases ix <;> first | rfl | cases hn)) (by cases y <;> rfl) (by cases y <;> rfl) rfl).imp' fun D σ H h => sset_read h
end
end Fx

set_option Elab.async false
set_option linter.all false
set_option maxRecDepth 100000
/-! Fx statements: parallel stores; a comprehension stored in a name. -/
namespace Fx
open PySem PySem.Spec PyProof.Rows L2
def bkOf (sc : Scope) : ScopeKind := if sc.kind.isAnnotationScope then .function else sc.kind
def swNames (sc : Scope) (ts : List Expr) : List Str := ts.filterMap fun
    | .Name id pos => if sc.names.lookup id == some .local && pos.line == (ts.head?.map (·.pos.line)).getD 0 then some id else none
    | _ => none
/-- which stores are swapped -/
def swB (sc : Scope) : Expr → Expr → Option (Option (List Str))
  | .Tuple ts _ _, .Tuple vs _ _ => if (!(ts.length == 2 || ts.length == 3) || vs.length != ts.length || bkOf sc != .function) = true then some none
    else if vs.any isStar = true then some none
    else if ((swNames sc ts).length != ts.length || (swNames sc ts).eraseDups.length != (swNames sc ts).length) = true then some none
    else if vs.all (foldedForSure 8) = true then some none
    else if vs.all (constantsAlone 8) = true then none
    else some (some (swNames sc ts))
  | .List _ _, .Tuple _ _ _ => none
  | _, _ => some none
theorem star_eq : (fun x : Expr => match x with | .Starred .. => true | _ => false) = isStar := by funext x; cases x <;> rfl
theorem swB_ok {env : PySem.Env} {t v : Expr} {r : Option (List Str)} (h : swB env.scope t v = some r) : swappedStores [t] v env = pure r := by
  unfold swB at h
  split at h
  · rename_i ts _ _ vs _ _
    unfold swappedStores
    simp only [star_eq]
    split at h
    · rename_i c
      cases h
      have c' : (!(ts.length == 2 || ts.length == 3) || vs.length != ts.length || env.blockKind != .function) = true := c
      simp only [c', if_true]
    · rename_i c
      have c' : (!(ts.length == 2 || ts.length == 3) || vs.length != ts.length || env.blockKind != .function) = false := by simpa [bkOf, Env.blockKind] using c
      simp only [c', Bool.false_eq_true, if_false]
      split
      · rename_i a
        have a' : vs.any isStar = true := Eq.trans (by congr 1) a
        rw [if_pos a'] at h
        cases h; rfl
      · rename_i a
        have a' : ¬ vs.any isStar = true := fun z => a (Eq.trans (by congr 1) z)
        rw [if_neg a'] at h
        split
        · rename_i b
          have b' : ((swNames env.scope ts).length != ts.length || (swNames env.scope ts).eraseDups.length != (swNames env.scope ts).length) = true := b
          rw [if_pos b'] at h
          cases h; rfl
        · rename_i b
          have b' : ¬ ((swNames env.scope ts).length != ts.length || (swNames env.scope ts).eraseDups.length != (swNames env.scope ts).length) = true := b
          rw [if_neg b'] at h
          split
          · rename_i d
            rw [if_pos d] at h
            cases h; rfl
          · rename_i d
            rw [if_neg d] at h
            split
            · rename_i f
              rw [if_pos f] at h
              cases h
            · rename_i f
              rw [if_neg f] at h
              cases h; rfl
  · cases h
  · rename_i h1 h2
    cases h
    unfold swappedStores
    cases t <;> first | rfl | (cases v <;> first | rfl | exact absurd rfl (h1 _ _ _ _ _ _ rfl) | exact absurd rfl (h2 _ _ _ _ _ rfl))
section
variable {tb : Tb} {w : Wd} {k : Nat} {sc ws : Scope} {X : Cx}
theorem bnd_assoc {α β γ : Type} {o : Out α} {f : α → Env → Out β} {g : β → Env → Out γ} : (o.bnd f).bnd g = o.bnd fun a e => (f a e).bnd g := by cases o <;> rfl
theorem mkTup_kids {ts : List T} {a b : Tg} {e e' : Env} (h : asgT (.t2 a b) (mkTup ts) e = some e') : ∃ t1 t2 e1, ts = [t1, t2] ∧ asgT a t1 e = some e1 ∧ asgT b t2 e1 = some e' := by
  unfold mkTup at h
  by_cases hz : ts.all T.isFz = true
  · rw [if_pos hz] at h
    rcases mkKids (x := .fz .non) (y := .fz .non) h with ⟨x, y, ht, e1, a1, a2⟩ | ⟨x, y, ht, e1, a1, a2⟩
    · rcases ht with ht | ht
      · have hx : ers ts = [x, y] := by simpa using ht
        match ts, hz, hx with
        | [.fz d1, .fz d2], _, hx => simp [ers, T.er] at hx; obtain ⟨rfl, rfl⟩ := hx; exact ⟨_, _, e1, rfl, a1, a2⟩
        | [], _, hx => simp [ers] at hx
        | [_], _, hx => simp [ers] at hx
        | _ :: _ :: _ :: _, _, hx => simp [ers] at hx
      · cases ht
    · cases ht
  · rw [if_neg hz] at h
    rcases mkKids (x := .fz .non) (y := .fz .non) h with ⟨x, y, ht, e1, a1, a2⟩ | ⟨x, y, ht, e1, a1, a2⟩
    · rcases ht with ht | ht <;> cases ht
    · cases ht
      exact ⟨x, y, e1, rfl, a1, a2⟩
theorem par_read {i j : Nat} {es : Es} {D : Ends} {σ : SSt} {H : Hp} (hi : i ∉ w.kp) (hj : j ∉ w.kp) (h : tS w (.asg (.t2 (.n i) (.n j)) (.tup es)) D σ H) : tPar i j (tEs w es) D σ H := by
  obtain ⟨G, L, P, e, F, R, h⟩ := h
  simp only [ex, ev, bnd_assoc] at h
  refine ⟨G, L, P, e, F, R, PoS.ofE h (lp_evs w.C es e) fun rs e1 vs F1 H1 _ R1 s1 p1 k1 h1 => ?_⟩
  have R1 : RRs w.K G L P σ rs e1 F1 H1 vs := R1
  cases em : mvs rs e1 with
  | none => rw [em] at h1; exact h1.elim
  | some q =>
    obtain ⟨ts, e2⟩ := q
    rw [em] at h1
    simp only at h1
    split at h1
    · simp only [Out.bnd, mv] at h1
      cases ea : asgT (.t2 (.n i) (.n j)) (mkTup ts) e2 with
      | none => rw [ea] at h1; exact h1.elim
      | some e3 =>
        rw [ea] at h1
        obtain ⟨F2, fp, s2, r2, R2⟩ := R1.mvs em
        obtain ⟨t1, t2, e4, rfl, a1, a2⟩ := mkTup_kids ea
        cases r2 with
        | @cons v1 _ _ _ f1 _ r1 r2 => cases r2 with
          | @cons v2 _ _ _ f2 _ r2 r3 =>
            cases r3
            refine ⟨v1, v2, rfl, ?_⟩
            have set1 : ∀ {n : Nat} {t : T} {v : V} {fq : List Addr} {P' : List Addr} {ea eb : Env} {σ' : SSt}, asgT (.n n) t ea = some eb → RT w.K F2 H1 v t fq → Rel w.K G L (fq ++ P') ea F2 σ' H1 → Rel w.K G L P' eb F2 (σ'.set n (some v)) H1 := fun {n t v fq P' ea eb σ'} ha rt R => by
              simp only [asgT] at ha
              split at ha
              · cases ha
              · rename_i s hn es
                simp at ha
                rw [← ha]
                exact R.asg rt es fun u z => hn u (by rw [z])
              · cases ha
            have R3 := set1 a1 r1 (P' := f2 ++ P) (by simpa [List.append_assoc] using R2)
            have R4 := set1 a2 r2 R3
            refine h1 F2 _ H1 R4 s2 Prs.refl ⟨fun n u hn => ?_, fun n hn => ?_⟩
            · have hn2 := (kl_mvs em).2 n u hn
              have nf := fun z => asgT_free ea n z u hn2
              simp only [Tg.ix, List.mem_append, List.mem_singleton, not_or] at nf
              have n1 : i ≠ n := fun z => nf (.inl z.symm)
              have n2 : j ≠ n := fun z => nf (.inr z.symm)
              rw [List.getElem?_set_ne n2, List.getElem?_set_ne n1]
            · have n1 : i ≠ n := fun z => hi (by rw [z]; exact hn)
              have n2 : j ≠ n := fun z => hj (by rw [z]; exact hn)
              rw [List.getElem?_set_ne n2, List.getElem?_set_ne n1]
    · exact h1.elim
theorem ps_parE {i j : Nat} {es : Es} {x y : Str} {a b : Expr} {px py pt pos : Pos} {kt k2 : Nat} {pt2 : Pos} (g : Gd tb w k sc ws X) (hi : tb.N[i]? = some x) (hj : tb.N[j]? = some y) (hij : i ≠ j) (hik : i ∉ tb.kp) (hjk : j ∉ tb.kp) (hx : sc.names.lookup x = some .local) (hy : sc.names.lookup y = some .local)
    (hs : PA X [a, b] (tEs w es)) (hw : swB sc (.Tuple [.Name x px, .Name y py] kt pt) (.Tuple [a, b] k2 pt2) = some (some [x, y])) : PS X (.Assign [.Tuple [.Name x px, .Name y py] kt pt] (.Tuple [a, b] k2 pt2) pos) (tS w (.asg (.t2 (.n i) (.n j)) (.tup es))) :=
  (ps_par g.calm g.nd (by rw [g.N]; exact hi) (by rw [g.N]; exact hj) hij (by rw [g.sc]; exact hx) (by rw [g.sc]; exact hy) hs (swB_ok (by rw [g.sc]; exact hw)) rfl).imp' fun D σ H h => par_read (by rw [g.kp]; exact hik) (by rw [g.kp]; exact hjk) h
/-! ### name = [..] on one line -/
theorem gset_read {own : List Nat} {x : E} {tg : Tg} {it : It} {ifs : Oe} {i : Nat} {D : Ends} {σ : SSt} {H : Hp} (hik : i ∉ w.kp) (hsub : ∀ i ∈ tg.ix, i ∈ own) (h : tS w (.asg (.n i) (.comp own x tg it ifs)) D σ H) : tAsg (tLc (tIt w it) (tGt w.calm tg) (tOt w.calm ifs) (tE w.calm x) own) (gName i) D σ H := by
  refine lc_read (w := w) (Q := fun v H1 => gName i v σ H1 D.nx) hsub ?_
  obtain ⟨G, L, P, e, F, R, h⟩ := h
  simp only [ex] at h
  refine ⟨G, L, P, e, F, R, PoS.ofE h (lp_ev w.C _ e) fun r e1 v F1 H1 _ R1 s1 p1 k1 h1 => ?_⟩
  have q := asg_run (fun j hj => by simp [Tg.ix] at hj; rw [hj]; exact hik) R1 h1
  obtain ⟨G', L', P', e', F', t, fp, e3, rt, R3, ha, hq⟩ := q
  simp only [asgT] at ha
  split at ha
  · cases ha
  · rename_i s hn es
    simp at ha
    rw [← ha] at hq
    exact hq _ (R3.asg rt es fun u z => hn u (by rw [z])) (fun j hj => List.getElem?_set_ne (by simp [Tg.ix] at hj; exact fun z => hj z.symm)) (by simp)
  · cases ha
theorem gset2_read {own own1 : List Nat} {x : E} {tg tg1 : Tg} {it it1 : It} {ifs ifs1 : Oe} {i : Nat} {D : Ends} {σ : SSt} {H : Hp} (hik : i ∉ w.kp) (hsub : ∀ i ∈ tg.ix, i ∈ own) (hsub1 : ∀ i ∈ tg1.ix, i ∈ own1) (h : tS w (.asg (.n i) (.comp2 own x tg it ifs own1 tg1 it1 ifs1)) D σ H) :
    tAsg (tLc2 (tIt w it) (tGt w.calm tg) (tOt w.calm ifs) (tIt w.calm it1) (tGt w.calm tg1) (tOt w.calm ifs1) (tE w.calm x) own own1) (gName i) D σ H := by
  refine lc2_read (w := w) (Q := fun v H1 => gName i v σ H1 D.nx) hsub hsub1 ?_
  obtain ⟨G, L, P, e, F, R, h⟩ := h
  simp only [ex] at h
  refine ⟨G, L, P, e, F, R, PoS.ofE h (lp_ev w.C _ e) fun r e1 v F1 H1 _ R1 s1 p1 k1 h1 => ?_⟩
  have q := asg_run (fun j hj => by simp [Tg.ix] at hj; rw [hj]; exact hik) R1 h1
  obtain ⟨G', L', P', e', F', t, fp, e3, rt, R3, ha, hq⟩ := q
  simp only [asgT] at ha
  split at ha
  · cases ha
  · rename_i s hn es
    simp at ha
    rw [← ha] at hq
    exact hq _ (R3.asg rt es fun u z => hn u (by rw [z])) (fun j hj => List.getElem?_set_ne (by simp [Tg.ix] at hj; exact fun z => hj z.symm)) (by simp)
  · cases ha
/-- a comprehension is stored at once -/
def setB (sc scope : Scope) (y : Str) (py pos : Pos) : Bool := (match sc.kind with | .function => true | _ => false) && (decide (sc.names.lookup y = some .local) && ((py.line == pos.line) && !(scope.names.any fun (n, k) => n == y && (k == .local || k == .cell))))
theorem setB_of {scope : Scope} {y : Str} {py pos : Pos} (g : Gd tb w k sc ws X) (h : setB sc scope y py pos = true) : X.env.scope.kind = .function ∧ X.env.scope.names.lookup y = some .local ∧ (py.line == pos.line) = true ∧ (scope.names.any fun (n, k) => n == y && (k == .local || k == .cell)) = false := by
  unfold setB at h
  simp only [Bool.and_eq_true, decide_eq_true_eq, Bool.not_eq_true'] at h
  rw [g.sc]
  refine ⟨?_, h.2.1, h.2.2.1, h.2.2.2⟩
  have := h.1
  split at this
  · assumption
  · cases this
theorem ps_setCompE {ownp : List (Str × Nat)} {own : List Nat} {x : E} {tg : Tg} {it : It} {ifs : Oe} {elt tgx iter : Expr} {ifx : List Expr} {scope : Scope} {pos spos py : Pos} {i : Nat} {y : Str} (g : Gd tb w k sc ws X) (hy : tb.N[i]? = some y) (hik : i ∉ tb.kp) (hsb : setB sc scope y py pos = true) (hc : compOk tb sc scope ownp own tg iter = true) (hi : PI X tgx iter (tIt w it))
    (hg : ∀ X', Gd tb w.calm k (relS scope sc) scope X' → PG X' tgx (tGt w.calm tg)) (ht : ∀ X', Gd tb w.calm k (relS scope sc) scope X' → PTs X' ifx (tOt w.calm ifs)) (he : ∀ X', Gd tb w.calm k (relS scope sc) scope X' → PE X' elt (tE w.calm x)) :
    PS X (.Assign [.Name y py] (.ListComp elt [⟨tgx, iter, ifx, 0⟩] scope pos) spos) (tS w (.asg (.n i) (.comp own x tg it ifs))) := by
  obtain ⟨h1, rfl, h3, h4⟩ := compOk_of g hc
  obtain ⟨q1, q2, q3, q4⟩ := setB_of g hsb
  exact (ps_setLc g.calm g.nd (by rw [g.N]; exact hy) q2 (sw_true q1 q2 q3 q4) hi h1 (fun s H C cl fp => hg _ (g.blk scope s H C cl fp)) (fun s H C cl fp => ht _ (g.blk scope s H C cl fp)) (fun s H C cl fp => he _ (g.blk scope s H C cl fp)) (nfold h4)).imp' fun D σ H h => gset_read (by rw [g.kp]; exact hik) h3 h
theorem ps_setComp2E {ownp : List (Str × Nat)} {own own1 : List Nat} {x : E} {tg tg1 : Tg} {it it1 : It} {ifs ifs1 : Oe} {elt tgx iter tgx1 iter1 : Expr} {ifx ifx1 : List Expr} {scope : Scope} {pos spos py : Pos} {i : Nat} {y : Str} (g : Gd tb w k sc ws X) (hy : tb.N[i]? = some y) (hik : i ∉ tb.kp) (hsb : setB sc scope y py pos = true) (hc : compOk tb sc scope ownp own tg iter = true)
    (hc1 : (own1.all own.contains && (tg1.ix.all own1.contains && !isSet iter1)) = true) (hi : PI X tgx iter (tIt w it))
    (hg : ∀ X', Gd tb w.calm k (relS scope sc) scope X' → PG X' tgx (tGt w.calm tg)) (ht : ∀ X', Gd tb w.calm k (relS scope sc) scope X' → PTs X' ifx (tOt w.calm ifs))
    (hi1 : ∀ X', Gd tb w.calm k (relS scope sc) scope X' → PI X' tgx1 iter1 (tIt w.calm it1)) (hg1 : ∀ X', Gd tb w.calm k (relS scope sc) scope X' → PG X' tgx1 (tGt w.calm tg1)) (ht1 : ∀ X', Gd tb w.calm k (relS scope sc) scope X' → PTs X' ifx1 (tOt w.calm ifs1))
    (he : ∀ X', Gd tb w.calm k (relS scope sc) scope X' → PE X' elt (tE w.calm x)) :
    PS X (.Assign [.Name y py] (.ListComp elt [⟨tgx, iter, ifx, 0⟩, ⟨tgx1, iter1, ifx1, 0⟩] scope pos) spos) (tS w (.asg (.n i) (.comp2 own x tg it ifs own1 tg1 it1 ifs1))) := by
  obtain ⟨h1, rfl, h3, h4⟩ := compOk_of g hc
  obtain ⟨q1, q2, q3, q4⟩ := setB_of g hsb
  simp only [Bool.and_eq_true, List.all_eq_true, List.contains_iff_mem, Bool.not_eq_true'] at hc1
  exact (ps_setLc2 g.calm g.nd (by rw [g.N]; exact hy) q2 (sw_true q1 q2 q3 q4) hi h1 hc1.1 (fun s H C cl fp => hg _ (g.blk scope s H C cl fp)) (fun s H C cl fp => ht _ (g.blk scope s H C cl fp)) (fun s H C cl fp => hi1 _ (g.blk scope s H C cl fp)) (fun s H C cl fp => hg1 _ (g.blk scope s H C cl fp)) (fun s H C cl fp => ht1 _ (g.blk scope s H C cl fp))
    (fun s H C cl fp => he _ (g.blk scope s H C cl fp)) (nfold h4) (fun env => nfold hc1.2.2)).imp' fun D σ H h => gset2_read (by rw [g.kp]; exact hik) h3 hc1.2.1 h
end
end Fx

set_option Elab.async false
set_option linter.all false
set_option maxRecDepth 100000
/-! Fx: a text and its resolved form fit; then the form's reading is the text's. -/
namespace Fx
open PySem PySem.Spec PyProof.Rows L2
def nSup : Expr → Bool
  | .Call (.Name _ _) [] [] _ => false
  | _ => true
theorem nSup_base {o : Expr} {a : Str} {env : PySem.Env} {whole : Sem Value} (h : nSup o = true) : attributeBase o a env whole = whole := by
  unfold attributeBase
  split
  · simp [nSup] at h
  · rfl
def isTup : Expr → Bool
  | .Tuple _ _ _ => true
  | _ => false
def isSS : Bi → Bool
  | .sortset => true
  | _ => false
def tyNames : List String := ["int", "bool", "str", "tuple", "list", "dict"]
def ownP (tb : Tb) (own : List Nat) : List (Str × Nat) := own.map fun i => (tb.N.getD i Str.empty, i)
section
variable (tb : Tb) (C : Cf)
mutual
def chk (sc : Scope) (t : Bool) : E → Expr → Bool
  | .c d, .Constant c _ _ => !t && cOk d c
  | .c (.ty n), .Name x _ => !t && (decide (x = Str.ofString n) && (decide (n ∈ tyNames) && gloB sc x))
  | .v i, .Name x _ => decide (tb.N[i]? = some x) && (visB sc x && !dunder x)
  | .g n, .Name x _ => decide (tb.gnm n = some x) && (gloB sc x && !dunder x)
  | .bin o a b, .BinOp l o' r _ => decide (o = o') && (chk sc false a l && chk sc false b r)
  | .neg a, .UnaryOp .USub l _ => chk sc false a l
  | .cmp a r, .Compare l ops bs _ => chk sc false a l && (chkC sc r ops bs && !lastMarks ops bs)
  | .and a b, .BoolOp .And [x, y] _ => chk sc t a x && chk sc t b y
  | .and a b, .BoolOp .And (x :: y :: z :: rest) p => chk sc t a x && chk sc t b (.BoolOp .And (y :: z :: rest) p)
  | .or a b, .BoolOp .Or [x, y] _ => chk sc t a x && chk sc t b y
  | .or a b, .BoolOp .Or (x :: y :: z :: rest) p => chk sc t a x && chk sc t b (.BoolOp .Or (y :: z :: rest) p)
  | .not a, .UnaryOp .Not x _ => chk sc t a x
  | .ife c a b, .IfExp z x y _ => !t && (chk sc true c z && (chk sc false a x && chk sc false b y))
  | .tup es, .Tuple ys _ _ => chkS sc es ys
  | .lst es, .List ys _ => chkS sc es ys
  | .call f es perm, .Call (.Name x _) ys [] _ => decide (perm = []) && (callOk tb C sc f es x ys && chkS sc es ys)
  | .call f es perm, .Call (.Name x _) ys (kw :: kws) _ => kwOk tb C sc f es perm x ys.length (kw :: kws) && chkS sc es (ys ++ (kw :: kws).map (·.value))
  | .bi b es, .Call (.Name x _) (y :: ys) [] _ => ((match biFn b, biTy b with
      | some n, _ => decide (x = Str.ofString n)
      | none, some n => decide (x = Str.ofString n)
      | none, none => false) && (gloB sc x && (noStars (y :: ys) && chkS sc es (y :: ys)))) ||
      (isSS b && (decide (x = Str.ofString "sorted") && (gloB sc x && (match y, ys with
        | .Call (.Name x2 _) [z] [] _, [] => decide (x2 = Str.ofString "set") && (gloB sc x2 && (noStars [z] && chkS sc es [z]))
        | _, _ => false))))
  | .meth m o es, .Call (.Attribute x name apos) ys [] pos => decide (name = mtN m) && (nSup x && ((apos.endLine == pos.line) && (noStars ys && (decide (ys.length < 20) && (chk sc false o x && chkS sc es ys)))))
  | .sub a b, .Subscript x y _ => nSlice y && (chk sc false a x && chk sc false b y)
  | .slc a lo hi, .Subscript x (.Slice l u none _) _ => chk sc false a x && (chkO sc lo l && chkO sc hi u)
  | .rev a, .Subscript x (.Slice none none (some (.UnaryOp .USub (.Constant (.int 1) _ _) _)) _) _ => chk sc false a x
  | .comp own x tg it ifs, .ListComp elt [⟨tgx, iter, ifx, n⟩] scope _ => decide (n = 0) && (compOk tb sc scope (ownP tb own) own tg iter && (chkI sc it iter tgx && (tgOk tb scope tg tgx && (chkF (relS scope sc) ifs ifx && chk (relS scope sc) false x elt))))
  | .comp2 own x tg it ifs own1 tg1 it1 ifs1, .ListComp elt [⟨tgx, iter, ifx, n⟩, ⟨tgx1, iter1, ifx1, n1⟩] scope _ => (decide (n = 0) && decide (n1 = 0)) && ((compOk tb sc scope (ownP tb own) own tg iter && (own1.all own.contains && (tg1.ix.all own1.contains && !isSet iter1))) && (chkI sc it iter tgx && (tgOk tb scope tg tgx && (chkF (relS scope sc) ifs ifx &&
      (chkI (relS scope sc) it1 iter1 tgx1 && (tgOk tb scope tg1 tgx1 && (chkF (relS scope sc) ifs1 ifx1 && chk (relS scope sc) false x elt)))))))
  | _, _ => false
def chkS (sc : Scope) : Es → List Expr → Bool
  | .nil, [] => true
  | .cons x es, y :: ys => !isStar y && (chk sc false x y && chkS sc es ys)
  | _, _ => false
def chkC (sc : Scope) : Cs → List CmpOp → List Expr → Bool
  | .one o b, [o'], [y] => decide (o = o') && chk sc false b y
  | .more o b r, o' :: o2 :: ops, y :: z :: ys => decide (o = o') && (chk sc false b y && chkC sc r (o2 :: ops) (z :: ys))
  | _, _, _ => false
def chkO (sc : Scope) : Oe → Option Expr → Bool
  | .none, none => true
  | .some x, some y => chk sc false x y
  | _, _ => false
def chkF (sc : Scope) : Oe → List Expr → Bool
  | .none, [] => true
  | .some x, [y] => chk sc true x y
  | _, _ => false
def chkI (sc : Scope) : It → Expr → Expr → Bool
  | .e x, y, _ => chk sc false x y
  | .rng1 a, .Call (.Name f _) [x] [] _, _ => decide (f = ("range" : Str)) && (gloB sc f && (!isStar x && chk sc false a x))
  | .rng2 a b, .Call (.Name f _) [x, y] [] _, _ => decide (f = ("range" : Str)) && (gloB sc f && ((!isStar x && !isStar y) && (chk sc false a x && chk sc false b y)))
  | .enum a, .Call (.Name f _) [x] [] _, tg => isTup tg && (decide (f = ("enumerate" : Str)) && (gloB sc f && (!isStar x && chk sc false a x)))
  | .zip a b, .Call (.Name f _) [x, y] [] _, tg => isTup tg && (decide (f = ("zip" : Str)) && (gloB sc f && ((!isStar x && !isStar y) && (chk sc false a x && chk sc false b y))))
  | _, _, _ => false
end
end
section
variable {tb : Tb} {k : Nat}
/-- both readings from the value's -/
theorem both {w : Wd} {sc ws : Scope} {X : Cx} {t : Bool} {e : E} {x : Expr} (g : Gd tb w k sc ws X) (hp : plainT x = true) (h : PE X x (tE w e)) : (t = false → PE X x (tE w e)) ∧ (t = true → PT X x (tB w e)) := ⟨fun _ => h, fun _ => pt_plain g h hp⟩
theorem val1 {w : Wd} {X : Cx} {t : Bool} {e : E} {x : Expr} (ht : t = false) (h : PE X x (tE w e)) : (t = false → PE X x (tE w e)) ∧ (t = true → PT X x (tB w e)) := ⟨fun _ => h, fun z => by rw [ht] at z; cases z⟩
mutual
theorem chk_ok (e : E) : ∀ {w : Wd} {sc ws : Scope} {X : Cx} {t : Bool} (x : Expr), Gd tb w k sc ws X → chk tb w.C sc t e x = true → (t = false → PE X x (tE w e)) ∧ (t = true → PT X x (tB w e)) := by
  intro w sc ws X t x g h
  cases e with
  | c d =>
    cases x with
    | Constant c j pos => simp only [chk, Bool.and_eq_true, Bool.not_eq_true'] at h; exact val1 h.1 (pe_c h.2)
    | Name y pos =>
      cases d with
      | ty n => simp only [chk, Bool.and_eq_true, decide_eq_true_eq, Bool.not_eq_true'] at h; exact val1 h.1 (pe_ty g h.2.1 h.2.2.1 h.2.2.2)
      | _ => simp [chk] at h
    | _ => cases d <;> simp [chk] at h
  | v i =>
    cases x with
    | Name y pos => simp only [chk, Bool.and_eq_true, decide_eq_true_eq, Bool.not_eq_true'] at h; exact both g rfl (pe_v g h.1 h.2.1 h.2.2)
    | _ => simp [chk] at h
  | g n =>
    cases x with
    | Name y pos => simp only [chk, Bool.and_eq_true, decide_eq_true_eq, Bool.not_eq_true'] at h; exact both g rfl (pe_g g h.1 h.2.1 h.2.2)
    | _ => simp [chk] at h
  | bin o a b =>
    cases x with
    | BinOp l o' r pos =>
      simp only [chk, Bool.and_eq_true, decide_eq_true_eq] at h
      obtain ⟨rfl, h1, h2⟩ := h
      exact both g rfl (pe_binE g ((chk_ok a l g h1).1 rfl) ((chk_ok b r g h2).1 rfl))
    | _ => simp [chk] at h
  | neg a =>
    cases x with
    | UnaryOp o l pos =>
      cases o with
      | USub => simp only [chk] at h; exact both g rfl (pe_negE ((chk_ok a l g h).1 rfl))
      | _ => simp [chk] at h
    | _ => simp [chk] at h
  | cmp a r =>
    cases x with
    | Compare l ops bs pos =>
      simp only [chk, Bool.and_eq_true, Bool.not_eq_true'] at h
      have h1 := (chk_ok a l g h.1).1 rfl
      have h2 := chkC_ok r ops bs g h.2.1
      exact ⟨fun _ => pe_cmpE h1 h2 h.2.2, fun _ => pt_cmpE h1 h2 h.2.2⟩
    | _ => simp [chk] at h
  | and a b =>
    cases x with
    | BoolOp o xs pos =>
      cases o with
      | And =>
        match xs, h with
        | [x, y], h =>
          simp only [chk, Bool.and_eq_true] at h
          have h1 := chk_ok a x g h.1
          have h2 := chk_ok b y g h.2
          exact ⟨fun z => pe_andE g (h1.1 z) (pe_one (h2.1 z)), fun z => (pw_andE (h1.2 z) (pw_and1 (h2.2 z))).pt⟩
        | x :: y :: z :: rest, h =>
          simp only [chk, Bool.and_eq_true] at h
          have h1 := chk_ok a x g h.1
          have h2 := chk_ok b _ g h.2
          refine ⟨fun z => pe_andE g (h1.1 z) (h2.1 z), fun z => (pw_andE (h1.2 z) (chkW b _ g (by rw [z] at h; exact h.2) rfl)).pt⟩
        | [x], h => simp [chk] at h
        | [], h => simp [chk] at h
      | _ => simp [chk] at h
    | _ => simp [chk] at h
  | or a b =>
    cases x with
    | BoolOp o xs pos =>
      cases o with
      | Or =>
        match xs, h with
        | [x, y], h =>
          simp only [chk, Bool.and_eq_true] at h
          have h1 := chk_ok a x g h.1
          have h2 := chk_ok b y g h.2
          exact ⟨fun z => pe_orE g (h1.1 z) (pe_one (h2.1 z)), fun z => (pw_orE (h1.2 z) (pw_or1 (h2.2 z))).pt⟩
        | x :: y :: z :: rest, h =>
          simp only [chk, Bool.and_eq_true] at h
          have h1 := chk_ok a x g h.1
          have h2 := chk_ok b _ g h.2
          refine ⟨fun z => pe_orE g (h1.1 z) (h2.1 z), fun z => (pw_orE (h1.2 z) (chkW b _ g (by rw [z] at h; exact h.2) rfl)).pt⟩
        | [x], h => simp [chk] at h
        | [], h => simp [chk] at h
      | _ => simp [chk] at h
    | _ => simp [chk] at h
  | not a =>
    cases x with
    | UnaryOp o l pos =>
      cases o with
      | Not =>
        simp only [chk] at h
        have h1 := chk_ok a l g h
        exact ⟨fun z => pe_notE g (h1.1 z), fun z => pt_notE (h1.2 z)⟩
      | _ => simp [chk] at h
    | _ => simp [chk] at h
  | ife c a b =>
    cases x with
    | IfExp z x y pos =>
      simp only [chk, Bool.and_eq_true, Bool.not_eq_true'] at h
      exact val1 h.1 (pe_ifeE ((chk_ok c z g h.2.1).2 rfl) ((chk_ok a x g h.2.2.1).1 rfl) ((chk_ok b y g h.2.2.2).1 rfl))
    | _ => simp [chk] at h
  | tup es =>
    cases x with
    | Tuple ys j pos => simp only [chk] at h; exact both g rfl (pe_tupE (chkS_ok es ys g h).pa)
    | _ => simp [chk] at h
  | lst es =>
    cases x with
    | List ys pos => simp only [chk] at h; exact both g rfl (pe_lstE (chkS_ok es ys g h).pa)
    | _ => simp [chk] at h
  | call f es perm =>
    cases x with
    | Call fx ys kws pos =>
      cases fx with
      | Name y p =>
        cases kws with
        | nil =>
          simp only [chk, Bool.and_eq_true, decide_eq_true_eq] at h
          obtain ⟨rfl, h1, h2⟩ := h
          cases ys with
          | nil =>
            cases es with
            | nil => exact both g rfl (pe_callE0 g h1)
            | _ => simp [chkS] at h2
          | cons y0 ys => exact both g rfl (pe_callE g h1 (chkS_ok es _ g h2).pa)
        | cons kw kws =>
          simp only [chk, Bool.and_eq_true] at h
          exact both g rfl (pe_callKw g h.1 (chkS_ok es _ g h.2))
      | _ => simp [chk] at h
    | _ => simp [chk] at h
  | bi b es =>
    cases x with
    | Call fx ys kws pos =>
      cases fx with
      | Name y p =>
        cases kws with
        | nil =>
          cases ys with
          | nil => simp [chk] at h
          | cons y0 ys =>
            simp only [chk, Bool.or_eq_true, Bool.and_eq_true] at h
            rcases h with h | ⟨k0, k1, k2, k3⟩
            rotate_left
            · split at k3
              · simp only [Bool.and_eq_true, decide_eq_true_eq] at k1 k3
                obtain ⟨q1, q2, q3, q4⟩ := k3
                have hs := (chkS_ok es _ g q4).pa
                cases b <;> first | (simp [isSS] at k0; done) | exact both g rfl (pe_sortset g k1 q1 k2 q2 q3 hs)
              · cases k3
            obtain ⟨h0, h1, h2, h3⟩ := h
            have hs := (chkS_ok es _ g h3).pa
            cases e1 : biFn b with
            | some n =>
              rw [e1] at h0
              simp only [decide_eq_true_eq] at h0
              exact both g rfl (pe_biF g e1 h0 h1 h2 hs)
            | none =>
              rw [e1] at h0
              cases e2 : biTy b with
              | some n =>
                rw [e2] at h0
                simp only [decide_eq_true_eq] at h0
                exact both g rfl (pe_biT g e2 h0 h1 h2 hs)
              | none => rw [e2] at h0; cases h0
        | cons _ _ => simp [chk] at h
      | _ => simp [chk] at h
    | _ => simp [chk] at h
  | meth m o es =>
    cases x with
    | Call fx ys kws pos =>
      cases fx with
      | Attribute x name apos =>
        cases kws with
        | nil =>
          simp only [chk, Bool.and_eq_true, decide_eq_true_eq] at h
          obtain ⟨rfl, h1, h2, h3, h4, h5, h6⟩ := h
          have ho := (chk_ok o x g h5).1 rfl
          cases ys with
          | nil =>
            cases es with
            | nil => exact both g rfl (pe_methE0 g ho (nSup_base h1) h2)
            | _ => simp [chkS] at h6
          | cons y0 ys => exact both g rfl (pe_methE g ho (chkS_ok es _ g h6).pa (nSup_base h1) h2 h3 (decide_eq_true h4))
        | cons _ _ => simp [chk] at h
      | _ => simp [chk] at h
    | _ => simp [chk] at h
  | sub a b =>
    cases x with
    | Subscript x y pos =>
      simp only [chk, Bool.and_eq_true] at h
      exact both g rfl (pe_subE g ((chk_ok a x g h.2.1).1 rfl) ((chk_ok b y g h.2.2).1 rfl) (nSlice_ix h.1))
    | _ => simp [chk] at h
  | slc a lo hi =>
    cases x with
    | Subscript x y pos =>
      cases y with
      | Slice l u st p2 =>
        cases st with
        | none =>
          simp only [chk, Bool.and_eq_true] at h
          exact both g rfl (pe_slcE g ((chk_ok a x g h.1).1 rfl) (chkO_ok lo l g h.2.1) (chkO_ok hi u g h.2.2))
        | some _ => simp [chk] at h
      | _ => simp [chk] at h
    | _ => simp [chk] at h
  | comp own x0 tg it ifs =>
    cases x with
    | ListComp elt gs scope pos =>
      match gs, h with
      | [⟨tgx, iter, ifx, n⟩], h =>
        simp only [chk, Bool.and_eq_true, decide_eq_true_eq] at h
        obtain ⟨rfl, h1, h2, h3, h4, h5⟩ := h
        exact both g rfl (pe_compE g h1 (chkI_ok it iter tgx g h2) (fun X' g' => pg_of g' tg tgx h3) (fun X' g' => chkF_ok ifs ifx g' h4) (fun X' g' => (chk_ok x0 elt g' h5).1 rfl))
      | [], h => simp [chk] at h
      | _ :: _ :: _, h => simp [chk] at h
    | _ => simp [chk] at h
  | comp2 own x0 tg it ifs own1 tg1 it1 ifs1 =>
    cases x with
    | ListComp elt gs scope pos =>
      match gs, h with
      | [⟨tgx, iter, ifx, n⟩, ⟨tgx1, iter1, ifx1, n1⟩], h =>
        simp only [chk, Bool.and_eq_true, decide_eq_true_eq] at h
        obtain ⟨⟨rfl, rfl⟩, ⟨h1, h0⟩, h2, h3, h4, h5, h6, h7, h8⟩ := h
        exact both g rfl (pe_comp2E g h1 (by simp only [Bool.and_eq_true]; exact h0) (chkI_ok it iter tgx g h2) (fun X' g' => pg_of g' tg tgx h3) (fun X' g' => chkF_ok ifs ifx g' h4) (fun X' g' => chkI_ok it1 iter1 tgx1 g' h5) (fun X' g' => pg_of g' tg1 tgx1 h6) (fun X' g' => chkF_ok ifs1 ifx1 g' h7) (fun X' g' => (chk_ok x0 elt g' h8).1 rfl))
      | [], h => simp [chk] at h
      | [_], h => simp [chk] at h
      | _ :: _ :: _ :: _, h => simp [chk] at h
    | _ => simp [chk] at h
  | rev a =>
    cases x with
    | Subscript x y pos =>
      unfold chk at h
      split at h <;> first | (rename_i e0 _ _ _ _ _; cases e0; done) | skip
      all_goals first
        | (rename_i z1 z2; injection z2 with y1 y2 y3; subst y1; subst y2; injection z1 with w1; subst w1; exact both g rfl (pe_revE g ((chk_ok a _ g h).1 rfl)))
        | (exfalso; simp_all; done)
    | _ => simp [chk] at h
termination_by structural e
theorem chkW (e : E) : ∀ {w : Wd} {sc ws : Scope} {X : Cx} (x : Expr), Gd tb w k sc ws X → chk tb w.C sc true e x = true → (match x with | .BoolOp _ (_ :: _ :: _) _ => true | _ => false) = true → PW X x (tB w e) := by
  intro w sc ws X x g h hx
  cases e with
  | and a b =>
    cases x with
    | BoolOp o xs pos =>
      cases o with
      | And =>
        match xs, h with
        | [x, y], h =>
          simp only [chk, Bool.and_eq_true] at h
          exact pw_andE ((chk_ok a x g h.1).2 rfl) (pw_and1 ((chk_ok b y g h.2).2 rfl))
        | x :: y :: z :: rest, h =>
          simp only [chk, Bool.and_eq_true] at h
          exact pw_andE ((chk_ok a x g h.1).2 rfl) (chkW b _ g h.2 rfl)
        | [x], h => simp [chk] at h
        | [], h => simp [chk] at h
      | _ => simp [chk] at h
    | _ => simp at hx
  | or a b =>
    cases x with
    | BoolOp o xs pos =>
      cases o with
      | Or =>
        match xs, h with
        | [x, y], h =>
          simp only [chk, Bool.and_eq_true] at h
          exact pw_orE ((chk_ok a x g h.1).2 rfl) (pw_or1 ((chk_ok b y g h.2).2 rfl))
        | x :: y :: z :: rest, h =>
          simp only [chk, Bool.and_eq_true] at h
          exact pw_orE ((chk_ok a x g h.1).2 rfl) (chkW b _ g h.2 rfl)
        | [x], h => simp [chk] at h
        | [], h => simp [chk] at h
      | _ => simp [chk] at h
    | _ => simp at hx
  | _ =>
    cases x with
    | BoolOp o xs pos => simp [chk] at h
    | _ => simp at hx
termination_by structural e
theorem chkS_ok (es : Es) : ∀ {w : Wd} {sc ws : Scope} {X : Cx} (ys : List Expr), Gd tb w k sc ws X → chkS tb w.C sc es ys = true → PEs X w es ys := by
  intro w sc ws X ys g h
  cases es with
  | nil =>
    cases ys with
    | nil => exact .nil
    | cons _ _ => simp [chkS] at h
  | cons x es =>
    cases ys with
    | nil => simp [chkS] at h
    | cons y ys =>
      simp only [chkS, Bool.and_eq_true, Bool.not_eq_true'] at h
      exact .cons ((chk_ok x y g h.2.1).1 rfl) h.1 (chkS_ok es ys g h.2.2)
  | star x es => cases ys <;> simp [chkS] at h
termination_by structural es
theorem chkC_ok (r : Cs) : ∀ {w : Wd} {sc ws : Scope} {X : Cx} (ops : List CmpOp) (bs : List Expr), Gd tb w k sc ws X → chkC tb w.C sc r ops bs = true → PCh X ops bs (tCh w r) := by
  intro w sc ws X ops bs g h
  cases r with
  | one o b =>
    match ops, bs, h with
    | [o'], [y], h =>
      simp only [chkC, Bool.and_eq_true, decide_eq_true_eq] at h
      obtain ⟨rfl, h1⟩ := h
      exact pch_one g ((chk_ok b y g h1).1 rfl)
    | [], _, h => simp [chkC] at h
    | _ :: _ :: _, _, h => simp [chkC] at h
    | [_], [], h => simp [chkC] at h
    | [_], _ :: _ :: _, h => simp [chkC] at h
  | more o b r =>
    match ops, bs, h with
    | o' :: o2 :: ops, y :: z :: ys, h =>
      simp only [chkC, Bool.and_eq_true, decide_eq_true_eq] at h
      obtain ⟨rfl, h1, h2⟩ := h
      exact pch_more g ((chk_ok b y g h1).1 rfl) (chkC_ok r _ _ g h2)
    | [], _, h => simp [chkC] at h
    | [_], _, h => simp [chkC] at h
    | _ :: _ :: _, [], h => simp [chkC] at h
    | _ :: _ :: _, [_], h => simp [chkC] at h
termination_by structural r
theorem chkO_ok (x : Oe) : ∀ {w : Wd} {sc ws : Scope} {X : Cx} (y : Option Expr), Gd tb w k sc ws X → chkO tb w.C sc x y = true → L2.PO X y (tEo w x) := by
  intro w sc ws X y g h
  cases x with
  | none => cases y with
    | none => exact poE_none
    | some _ => simp [chkO] at h
  | some x => cases y with
    | none => simp [chkO] at h
    | some y => simp only [chkO] at h; exact poE_some ((chk_ok x y g h).1 rfl)
termination_by structural x
theorem chkF_ok (x : Oe) : ∀ {w : Wd} {sc ws : Scope} {X : Cx} (ys : List Expr), Gd tb w k sc ws X → chkF tb w.C sc x ys = true → PTs X ys (tOt w x) := by
  intro w sc ws X ys g h
  cases x with
  | none => cases ys with
    | nil => exact pts_noneE
    | cons _ _ => simp [chkF] at h
  | some x =>
    match ys, h with
    | [y], h => simp only [chkF] at h; exact pts_oneE ((chk_ok x y g h).2 rfl)
    | [], h => simp [chkF] at h
    | _ :: _ :: _, h => simp [chkF] at h
termination_by structural x
theorem chkI_ok (x : It) : ∀ {w : Wd} {sc ws : Scope} {X : Cx} (y tg : Expr), Gd tb w k sc ws X → chkI tb w.C sc x y tg = true → PI X tg y (tIt w x) := by
  intro w sc ws X y tg g h
  cases x with
  | e x => simp only [chkI] at h; exact pi_eE g ((chk_ok x y g h).1 rfl)
  | rng1 a =>
    cases y with
    | Call fx ys kws pos =>
      cases fx with
      | Name f p =>
        cases kws with
        | nil =>
          match ys, h with
          | [x], h =>
            simp only [chkI, Bool.and_eq_true, decide_eq_true_eq, Bool.not_eq_true'] at h
            obtain ⟨rfl, h1, h2, h3⟩ := h
            exact pi_rng1E g h1 h2 ((chk_ok a x g h3).1 rfl)
          | [], h => simp [chkI] at h
          | _ :: _ :: _, h => simp [chkI] at h
        | cons _ _ => exact absurd h (by rcases ys with _ | ⟨_, _ | ⟨_, _ | ⟨_, _⟩⟩⟩ <;> simp [chkI])
      | _ => simp [chkI] at h
    | _ => simp [chkI] at h
  | rng2 a b =>
    cases y with
    | Call fx ys kws pos =>
      cases fx with
      | Name f p =>
        cases kws with
        | nil =>
          match ys, h with
          | [x, y], h =>
            simp only [chkI, Bool.and_eq_true, decide_eq_true_eq, Bool.not_eq_true'] at h
            obtain ⟨rfl, h1, ⟨h2, h3⟩, h4, h5⟩ := h
            exact pi_rng2E g h1 h2 h3 ((chk_ok a x g h4).1 rfl) ((chk_ok b y g h5).1 rfl)
          | [], h => simp [chkI] at h
          | [_], h => simp [chkI] at h
          | _ :: _ :: _ :: _, h => simp [chkI] at h
        | cons _ _ => exact absurd h (by rcases ys with _ | ⟨_, _ | ⟨_, _ | ⟨_, _⟩⟩⟩ <;> simp [chkI])
      | _ => simp [chkI] at h
    | _ => simp [chkI] at h
  | enum a =>
    cases y with
    | Call fx ys kws pos =>
      cases fx with
      | Name f p =>
        cases kws with
        | nil =>
          match ys, h with
          | [x], h =>
            simp only [chkI, Bool.and_eq_true, decide_eq_true_eq, Bool.not_eq_true'] at h
            obtain ⟨h0, rfl, h1, h2, h3⟩ := h
            cases tg with
            | Tuple elts kk tpos => exact pi_enumE g h1 h2 ((chk_ok a x g h3).1 rfl)
            | _ => cases h0
          | [], h => simp [chkI] at h
          | _ :: _ :: _, h => simp [chkI] at h
        | cons _ _ => exact absurd h (by rcases ys with _ | ⟨_, _ | ⟨_, _ | ⟨_, _⟩⟩⟩ <;> simp [chkI])
      | _ => simp [chkI] at h
    | _ => simp [chkI] at h
  | zip a b =>
    cases y with
    | Call fx ys kws pos =>
      cases fx with
      | Name f p =>
        cases kws with
        | nil =>
          match ys, h with
          | [x, y], h =>
            simp only [chkI, Bool.and_eq_true, decide_eq_true_eq, Bool.not_eq_true'] at h
            obtain ⟨h0, rfl, h1, ⟨h2, h3⟩, h4, h5⟩ := h
            cases tg with
            | Tuple elts kk tpos => exact pi_zipE g h1 h2 h3 ((chk_ok a x g h4).1 rfl) ((chk_ok b y g h5).1 rfl)
            | _ => cases h0
          | [], h => simp [chkI] at h
          | [_], h => simp [chkI] at h
          | _ :: _ :: _ :: _, h => simp [chkI] at h
        | cons _ _ => exact absurd h (by rcases ys with _ | ⟨_, _ | ⟨_, _ | ⟨_, _⟩⟩⟩ <;> simp [chkI])
      | _ => simp [chkI] at h
    | _ => simp [chkI] at h
termination_by structural x
end
end
end Fx

set_option Elab.async false
set_option linter.all false
set_option maxRecDepth 100000
/-! Fx statements: three names stored in parallel. -/
namespace Fx
open PySem PySem.Spec PyProof.Rows L2
section
variable {tb : Tb} {w : Wd} {k : Nat} {sc ws : Scope} {X : Cx}
theorem mkKids3 {t : T} {a b c : Tg} {e e' : Env} (h : asgT (.t3 a b c) t e = some e') : (∃ x y z, (t = .fz (.tup [x, y, z]) ∨ ∃ q, t = .fz q ∧ q = .lst [x, y, z]) ∧ ∃ e1 e2, asgT a (.fz x) e = some e1 ∧ asgT b (.fz y) e1 = some e2 ∧ asgT c (.fz z) e2 = some e') ∨ ∃ x y z, t = .tup [x, y, z] ∧ ∃ e1 e2, asgT a x e = some e1 ∧ asgT b y e1 = some e2 ∧ asgT c z e2 = some e' := by
  simp only [asgT] at h
  split at h
  · rename_i x y z
    cases h1 : asgT a (.fz x) e with
    | none => rw [h1] at h; cases h
    | some e1 =>
      rw [h1] at h
      simp only at h
      cases h2 : asgT b (.fz y) e1 with
      | none => rw [h2] at h; cases h
      | some e2 => rw [h2] at h; exact .inl ⟨x, y, z, .inl rfl, e1, e2, h1, h2, h⟩
  · rename_i x y z
    cases h1 : asgT a x e with
    | none => rw [h1] at h; cases h
    | some e1 =>
      rw [h1] at h
      simp only at h
      cases h2 : asgT b y e1 with
      | none => rw [h2] at h; cases h
      | some e2 => rw [h2] at h; exact .inr ⟨x, y, z, rfl, e1, e2, h1, h2, h⟩
  · cases h
theorem mkTup_kids3 {ts : List T} {a b c : Tg} {e e' : Env} (h : asgT (.t3 a b c) (mkTup ts) e = some e') : ∃ t1 t2 t3 e1 e2, ts = [t1, t2, t3] ∧ asgT a t1 e = some e1 ∧ asgT b t2 e1 = some e2 ∧ asgT c t3 e2 = some e' := by
  unfold mkTup at h
  by_cases hz : ts.all T.isFz = true
  · rw [if_pos hz] at h
    rcases mkKids3 h with ⟨x, y, z, ht, e1, e2, a1, a2, a3⟩ | ⟨x, y, z, ht, _⟩
    · rcases ht with ht | ⟨q, hq, ht⟩
      · have hx : ers ts = [x, y, z] := by simpa using ht
        match ts, hz, hx with
        | [.fz d1, .fz d2, .fz d3], _, hx => simp [ers, T.er] at hx; obtain ⟨rfl, rfl, rfl⟩ := hx; exact ⟨_, _, _, e1, e2, rfl, a1, a2, a3⟩
        | [], _, hx => simp [ers] at hx
        | [_], _, hx => simp [ers] at hx
        | [_, _], _, hx => simp [ers] at hx
        | _ :: _ :: _ :: _ :: _, _, hx => simp [ers] at hx
      · rw [ht] at hq; cases hq
    · cases ht
  · rw [if_neg hz] at h
    rcases mkKids3 h with ⟨x, y, z, ht, e1, e2, a1, a2, a3⟩ | ⟨x, y, z, ht, e1, e2, a1, a2, a3⟩
    · rcases ht with ht | ⟨q, hq, _⟩
      · cases ht
      · cases hq
    · cases ht
      exact ⟨x, y, z, e1, e2, rfl, a1, a2, a3⟩
theorem par3_read {i j l : Nat} {es : Es} {D : Ends} {σ : SSt} {H : Hp} (hi : i ∉ w.kp) (hj : j ∉ w.kp) (hl : l ∉ w.kp) (h : tS w (.asg (.t3 (.n i) (.n j) (.n l)) (.tup es)) D σ H) : tPar3 i j l (tEs w es) D σ H := by
  obtain ⟨G, L, P, e, F, R, h⟩ := h
  simp only [ex, ev, bnd_assoc] at h
  refine ⟨G, L, P, e, F, R, PoS.ofE h (lp_evs w.C es e) fun rs e1 vs F1 H1 _ R1 s1 p1 k1 h1 => ?_⟩
  have R1 : RRs w.K G L P σ rs e1 F1 H1 vs := R1
  cases em : mvs rs e1 with
  | none => rw [em] at h1; exact h1.elim
  | some q =>
    obtain ⟨ts, e2⟩ := q
    rw [em] at h1
    simp only at h1
    split at h1
    · simp only [Out.bnd, mv] at h1
      cases ea : asgT (.t3 (.n i) (.n j) (.n l)) (mkTup ts) e2 with
      | none => rw [ea] at h1; exact h1.elim
      | some e3 =>
        rw [ea] at h1
        obtain ⟨F2, fp, s2, r2, R2⟩ := R1.mvs em
        obtain ⟨t1, t2, t3, e4, e5, rfl, a1, a2, a3⟩ := mkTup_kids3 ea
        cases r2 with
        | @cons v1 _ _ _ f1 _ r1 r2 => cases r2 with
          | @cons v2 _ _ _ f2 _ r2 r3 => cases r3 with
            | @cons v3 _ _ _ f3 _ r3 r4 =>
            cases r4
            refine ⟨v1, v2, v3, rfl, ?_⟩
            have set1 : ∀ {n : Nat} {t : T} {v : V} {fq : List Addr} {P' : List Addr} {ea eb : Env} {σ' : SSt}, asgT (.n n) t ea = some eb → RT w.K F2 H1 v t fq → Rel w.K G L (fq ++ P') ea F2 σ' H1 → Rel w.K G L P' eb F2 (σ'.set n (some v)) H1 := fun {n t v fq P' ea eb σ'} ha rt R => by
              simp only [asgT] at ha
              split at ha
              · cases ha
              · rename_i s hn es
                simp at ha
                rw [← ha]
                exact R.asg rt es fun u z => hn u (by rw [z])
              · cases ha
            have R3 := set1 a1 r1 (P' := f2 ++ (f3 ++ P)) (by simpa [List.append_assoc] using R2)
            have R4 := set1 a2 r2 R3
            have R5 := set1 a3 r3 R4
            refine h1 F2 _ H1 R5 s2 Prs.refl ⟨fun n u hn => ?_, fun n hn => ?_⟩
            · have hn2 := (kl_mvs em).2 n u hn
              have nf := fun z => asgT_free ea n z u hn2
              simp only [Tg.ix, List.mem_append, List.mem_singleton, not_or] at nf
              have n1 : i ≠ n := fun z => nf (by simp [z])
              have n2 : j ≠ n := fun z => nf (by simp [z])
              have n3 : l ≠ n := fun z => nf (by simp [z])
              rw [List.getElem?_set_ne n3, List.getElem?_set_ne n2, List.getElem?_set_ne n1]
            · have n1 : i ≠ n := fun z => hi (by rw [z]; exact hn)
              have n2 : j ≠ n := fun z => hj (by rw [z]; exact hn)
              have n3 : l ≠ n := fun z => hl (by rw [z]; exact hn)
              rw [List.getElem?_set_ne n3, List.getElem?_set_ne n2, List.getElem?_set_ne n1]
    · exact h1.elim
theorem ps_par3E {i j l : Nat} {es : Es} {x y z : Str} {a b c : Expr} {px py pz pt pos : Pos} {kt k2 : Nat} {pt2 : Pos} (g : Gd tb w k sc ws X) (hi : tb.N[i]? = some x) (hj : tb.N[j]? = some y) (hl : tb.N[l]? = some z) (hij : i ≠ j) (hil : i ≠ l) (hjl : j ≠ l) (hik : i ∉ tb.kp) (hjk : j ∉ tb.kp) (hlk : l ∉ tb.kp)
    (hx : sc.names.lookup x = some .local) (hy : sc.names.lookup y = some .local) (hz : sc.names.lookup z = some .local)
    (hs : PA X [a, b, c] (tEs w es)) (hw : swB sc (.Tuple [.Name x px, .Name y py, .Name z pz] kt pt) (.Tuple [a, b, c] k2 pt2) = some (some [x, y, z])) : PS X (.Assign [.Tuple [.Name x px, .Name y py, .Name z pz] kt pt] (.Tuple [a, b, c] k2 pt2) pos) (tS w (.asg (.t3 (.n i) (.n j) (.n l)) (.tup es))) :=
  (ps_par3 g.calm g.nd (by rw [g.N]; exact hi) (by rw [g.N]; exact hj) (by rw [g.N]; exact hl) hij hil hjl (by rw [g.sc]; exact hx) (by rw [g.sc]; exact hy) (by rw [g.sc]; exact hz) hs (swB_ok (by rw [g.sc]; exact hw)) rfl).imp' fun D σ H h => par3_read (by rw [g.kp]; exact hik) (by rw [g.kp]; exact hjk) (by rw [g.kp]; exact hlk) h
end
end Fx

set_option Elab.async false
set_option linter.all false
set_option maxRecDepth 100000
/-! Fx: statements and their resolved forms. -/
namespace Fx
open PySem PySem.Spec PyProof.Rows L2
section
variable (tb : Tb) (C : Cf)
/-- a comprehension stored in a name at once -/
def chkSet (sc : Scope) : Tg → E → Expr → Expr → Bool
  | .n i, .comp own x tg it ifs, .Name y py, .ListComp elt [⟨tgx, iter, ifx, n⟩] scope pos => (decide (tb.N[i]? = some y) && (!tb.kp.contains i && setB sc scope y py pos)) && (decide (n = 0) && (compOk tb sc scope (ownP tb own) own tg iter && (chkI tb C sc it iter tgx && (tgOk tb scope tg tgx && (chkF tb C (relS scope sc) ifs ifx && chk tb C (relS scope sc) false x elt)))))
  | .n i, .comp2 own x tg it ifs own1 tg1 it1 ifs1, .Name y py, .ListComp elt [⟨tgx, iter, ifx, n⟩, ⟨tgx1, iter1, ifx1, n1⟩] scope pos => (decide (tb.N[i]? = some y) && (!tb.kp.contains i && setB sc scope y py pos)) && ((decide (n = 0) && decide (n1 = 0)) && ((compOk tb sc scope (ownP tb own) own tg iter && (own1.all own.contains && (tg1.ix.all own1.contains && !isSet iter1))) && (chkI tb C sc it iter tgx && (tgOk tb scope tg tgx && (chkF tb C (relS scope sc) ifs ifx &&
      (chkI tb C (relS scope sc) it1 iter1 tgx1 && (tgOk tb scope tg1 tgx1 && (chkF tb C (relS scope sc) ifs1 ifx1 && chk tb C (relS scope sc) false x elt))))))))
  | _, _, _, _ => false
/-- two names stored in parallel -/
def chkPar (sc : Scope) : Tg → E → Expr → Expr → Bool
  | .t2 (.n i) (.n j), .tup es, .Tuple [.Name x px, .Name y py] kt pt, .Tuple [a, b] k2 pt2 => decide (tb.N[i]? = some x) && (decide (tb.N[j]? = some y) && (decide (i ≠ j) && ((!tb.kp.contains i && !tb.kp.contains j) && (decide (sc.names.lookup x = some .local) && (decide (sc.names.lookup y = some .local) && (chkS tb C sc es [a, b] && decide (swB sc (.Tuple [.Name x px, .Name y py] kt pt) (.Tuple [a, b] k2 pt2) = some (some [x, y]))))))))
  | .t3 (.n i) (.n j) (.n l), .tup es, .Tuple [.Name x px, .Name y py, .Name z pz] kt pt, .Tuple [a, b, c] k2 pt2 => decide (tb.N[i]? = some x) && (decide (tb.N[j]? = some y) && (decide (tb.N[l]? = some z) && ((decide (i ≠ j) && (decide (i ≠ l) && decide (j ≠ l))) && ((!tb.kp.contains i && (!tb.kp.contains j && !tb.kp.contains l)) && ((decide (sc.names.lookup x = some .local) && (decide (sc.names.lookup y = some .local) && decide (sc.names.lookup z = some .local))) &&
      (chkS tb C sc es [a, b, c] && decide (swB sc (.Tuple [.Name x px, .Name y py, .Name z pz] kt pt) (.Tuple [a, b, c] k2 pt2) = some (some [x, y, z]))))))))
  | _, _, _, _ => false
def chkAsg (sc : Scope) (tg : Tg) (x : E) (tx y : Expr) : Bool := (nComp y && (tgOk tb sc tg tx && (decide (swB sc tx y = some none) && chk tb C sc false x y))) || (chkSet tb C sc tg x tx y || chkPar tb C sc tg x tx y)
def chkSub (sc : Scope) (o i x : E) : Expr → Expr → Bool
  | .Subscript ox ix _, y => nSlice ix && (chk tb C sc false o ox && (chk tb C sc false i ix && chk tb C sc false x y))
  | _, _ => false
def isDoc : Expr → Bool
  | .Constant (.str _) _ _ => true
  | _ => false
mutual
def chkSt (sc : Scope) : S → Stmt → Bool
  | .ex x, .Expr y _ => nComp y && chk tb C sc false x y
  | .pass, .Expr y _ => isDoc y
  | .pass, .Pass _ => true
  | .asg tg x, .Assign [tx] y _ => chkAsg tb C sc tg x tx y
  | .sset o i x, .Assign [tx] y _ => chkSub tb C sc o i x tx y
  | .ret x, .Return (some y) _ => chk tb C sc false x y
  | .retN, .Return none _ => true
  | .ite c a b, .If y xs ys _ => chk tb C sc true c y && (chkSs sc a xs && chkSs sc b ys)
  | .forS tg it b, .For tx iter body [] _ => chkI tb C sc it iter tx && (tgOk tb sc tg tx && (!isSet iter && chkSs sc b body))
  | .whileS c b, .While y body [] _ => chk tb C sc true c y && chkSs sc b body
  | .brk, .Break _ => true
  | .cnt, .Continue _ => true
  | .bad, _ => true
  | _, _ => false
def chkSs (sc : Scope) : Ss → List Stmt → Bool
  | .nil, [] => true
  | .cons s r, st :: rest => chkSt sc s st && chkSs sc r rest
  | _, _ => false
end
end
section
variable {tb : Tb} {k : Nat} {w : Wd} {sc : Scope} {X : Cx}
theorem chkSet_ok {tg : Tg} {x : E} {tx y : Expr} {pos : Pos} (g : Gd tb w k sc sc X) (h : chkSet tb w.C sc tg x tx y = true) : PS X (.Assign [tx] y pos) (tS w (.asg tg x)) := by
  unfold chkSet at h
  split at h
  · simp only [Bool.and_eq_true, decide_eq_true_eq, Bool.not_eq_true', List.contains_eq_mem, decide_eq_false_iff_not] at h
    obtain ⟨⟨a1, a2, a3⟩, rfl, h1, h2, h3, h4, h5⟩ := h
    exact ps_setCompE g a1 a2 a3 h1 (chkI_ok _ _ _ g h2) (fun X' g' => pg_of g' _ _ h3) (fun X' g' => chkF_ok _ _ g' h4) (fun X' g' => (chk_ok _ _ g' h5).1 rfl)
  · simp only [Bool.and_eq_true, decide_eq_true_eq, Bool.not_eq_true', List.contains_eq_mem, decide_eq_false_iff_not] at h
    obtain ⟨⟨a1, a2, a3⟩, ⟨rfl, rfl⟩, ⟨h1, h0⟩, h2, h3, h4, h5, h6, h7, h8⟩ := h
    exact ps_setComp2E g a1 a2 a3 h1 (by simp only [Bool.and_eq_true, List.contains_eq_mem, Bool.not_eq_true']; exact h0) (chkI_ok _ _ _ g h2) (fun X' g' => pg_of g' _ _ h3) (fun X' g' => chkF_ok _ _ g' h4) (fun X' g' => chkI_ok _ _ _ g' h5) (fun X' g' => pg_of g' _ _ h6) (fun X' g' => chkF_ok _ _ g' h7) (fun X' g' => (chk_ok _ _ g' h8).1 rfl)
  · cases h
theorem chkPar_ok {tg : Tg} {x : E} {tx y : Expr} {pos : Pos} (g : Gd tb w k sc sc X) (h : chkPar tb w.C sc tg x tx y = true) : PS X (.Assign [tx] y pos) (tS w (.asg tg x)) := by
  unfold chkPar at h
  split at h
  · simp only [Bool.and_eq_true, decide_eq_true_eq, Bool.not_eq_true', List.contains_eq_mem, decide_eq_false_iff_not] at h
    obtain ⟨h1, h2, h3, ⟨h4, h5⟩, h6, h7, h8, h9⟩ := h
    exact ps_parE g h1 h2 h3 h4 h5 h6 h7 (chkS_ok _ _ g h8).pa h9
  · simp only [Bool.and_eq_true, decide_eq_true_eq, Bool.not_eq_true', List.contains_eq_mem, decide_eq_false_iff_not] at h
    obtain ⟨h1, h2, h3, ⟨h4, h5, h6⟩, ⟨k1, k2, k3⟩, ⟨n1, n2, n3⟩, h8, h9⟩ := h
    exact ps_par3E g h1 h2 h3 h4 h5 h6 k1 k2 k3 n1 n2 n3 (chkS_ok _ _ g h8).pa h9
  · cases h
theorem chkAsg_ok {tg : Tg} {x : E} {tx y : Expr} {pos : Pos} (g : Gd tb w k sc sc X) (h : chkAsg tb w.C sc tg x tx y = true) : PS X (.Assign [tx] y pos) (tS w (.asg tg x)) := by
  unfold chkAsg at h
  rw [Bool.or_eq_true] at h
  rcases h with h | h
  · simp only [Bool.and_eq_true, decide_eq_true_eq] at h
    obtain ⟨h1, h2, h3, h4⟩ := h
    exact ps_asgE g ((chk_ok x y g h4).1 rfl) h2 (nComp_swaps h1) (swB_ok (by rw [g.sc]; exact h3))
  · rw [Bool.or_eq_true] at h
    exact h.elim (chkSet_ok g) (chkPar_ok g)
theorem chkSub_ok {o i x : E} {tx y : Expr} {pos : Pos} (g : Gd tb w k sc sc X) (h : chkSub tb w.C sc o i x tx y = true) : PS X (.Assign [tx] y pos) (tS w (.sset o i x)) := by
  unfold chkSub at h
  split at h
  · simp only [Bool.and_eq_true] at h
    exact ps_ssetE g ((chk_ok _ _ g h.2.1).1 rfl) ((chk_ok _ _ g h.2.2.1).1 rfl) ((chk_ok _ _ g h.2.2.2).1 rfl) h.1
  · cases h
mutual
theorem chkSt_ok (s : S) : ∀ {w : Wd} {X : Cx} (st : Stmt), Gd tb w k sc sc X → chkSt tb w.C sc s st = true → PS X st (tS w s) := by
  intro w X st g h
  cases s with
  | ex x =>
    cases st with
    | Expr y pos => simp only [chkSt, Bool.and_eq_true] at h; exact ps_exprE ((chk_ok x y g h.2).1 rfl) h.1
    | _ => simp [chkSt] at h
  | asg tg x =>
    cases st with
    | Assign ts y pos =>
      match ts, h with
      | [tx], h => simp only [chkSt] at h; exact chkAsg_ok g h
      | [], h => simp [chkSt] at h
      | _ :: _ :: _, h => simp [chkSt] at h
    | _ => simp [chkSt] at h
  | sset o i x =>
    cases st with
    | Assign ts y pos =>
      match ts, h with
      | [tx], h => simp only [chkSt] at h; exact chkSub_ok g h
      | [], h => simp [chkSt] at h
      | _ :: _ :: _, h => simp [chkSt] at h
    | _ => simp [chkSt] at h
  | aug i op x => simp [chkSt] at h
  | augS o i op x => simp [chkSt] at h
  | ret x =>
    cases st with
    | Return v pos =>
      cases v with
      | some y => simp only [chkSt] at h; exact ps_retE ((chk_ok x y g h).1 rfl)
      | none => simp [chkSt] at h
    | _ => simp [chkSt] at h
  | retN =>
    cases st with
    | Return v pos =>
      cases v with
      | some y => simp [chkSt] at h
      | none => exact ps_retNE
    | _ => simp [chkSt] at h
  | ite c a b =>
    cases st with
    | If y xs ys pos => simp only [chkSt, Bool.and_eq_true] at h; exact ps_ifE ((chk_ok c y g h.1).2 rfl) (chkSs_ok a xs g h.2.1) (chkSs_ok b ys g h.2.2)
    | _ => simp [chkSt] at h
  | forS tg it b =>
    cases st with
    | For tx iter body els pos =>
      cases els with
      | nil =>
        simp only [chkSt, Bool.and_eq_true, Bool.not_eq_true'] at h
        exact ps_forE g (chkI_ok it iter tx g h.1) h.2.1 (chkSs_ok b body g h.2.2.2) h.2.2.1
      | cons _ _ => simp [chkSt] at h
    | _ => simp [chkSt] at h
  | whileS c b =>
    cases st with
    | While y body els pos =>
      cases els with
      | nil => simp only [chkSt, Bool.and_eq_true] at h; exact ps_whileE g ((chk_ok c y g h.1).2 rfl) (chkSs_ok b body g h.2)
      | cons _ _ => simp [chkSt] at h
    | _ => simp [chkSt] at h
  | brk =>
    cases st with
    | Break pos => exact ps_brkE
    | _ => simp [chkSt] at h
  | cnt =>
    cases st with
    | Continue pos => exact ps_cntE
    | _ => simp [chkSt] at h
  | pass =>
    cases st with
    | Pass pos => exact ps_passE
    | Expr y pos =>
      simp only [chkSt] at h
      unfold isDoc at h
      split at h
      · exact ps_docE
      · cases h
    | _ => simp [chkSt] at h
  | bad => exact ps_badE
termination_by structural s
theorem chkSs_ok (s : Ss) : ∀ {w : Wd} {X : Cx} (sts : List Stmt), Gd tb w k sc sc X → chkSs tb w.C sc s sts = true → PSs X sts (tSs w s) := by
  intro w X sts g h
  cases s with
  | nil =>
    cases sts with
    | nil => exact pss_nilE
    | cons _ _ => simp [chkSs] at h
  | cons s r =>
    cases sts with
    | nil => simp [chkSs] at h
    | cons st rest => simp only [chkSs, Bool.and_eq_true] at h; exact pss_consE (chkSt_ok s st g h.1) (chkSs_ok r rest g h.2)
termination_by structural s
end
end
end Fx

set_option Elab.async false
set_option linter.all false
set_option maxRecDepth 100000
/-! Fx: a def of the text keeps the promise that its resolved form tells. -/
namespace Fx
open PySem PySem.Spec PyProof.Rows L2
structure FnT (P : Program) (w : World) (K : PySem.W.Frag) (mg : Str → Option Value) (base : Heap) (xt : Nat → Option (Value × List Str)) (k : Nat) (x : Str) (ps : List Str) (fn : Fn) : Prop where
  ex : ∃ f fd, mg x = some (.ref f) ∧ PySem.W.keepIn K (.ref f) = true ∧ Binds K fd ps [] ∧ KBa fd ps ∧ FnOk P w K mg base (L2.CX P w) k f fd ps (spOf K xt ps.length fn)
theorem FnT.mono {P : Program} {w : World} {K : PySem.W.Frag} {mg : Str → Option Value} {base : Heap} {xt : Nat → Option (Value × List Str)} {j k : Nat} {x : Str} {ps : List Str} {fn : Fn} (h : FnT P w K mg base xt j x ps fn) (hk : j ≤ k) : FnT P w K mg base xt k x ps fn := by
  obtain ⟨f, fd, a, b, c, d, e⟩ := h
  exact ⟨f, fd, a, b, c, d, e.mono hk⟩
section
variable {K : PySem.W.Frag} {G : Gh} {L P : List Addr} {σ : SSt} {F F' H H' : Hp} {e e' : Env}
theorem RE.uns : ∀ m : Nat, RE K F H [] (List.replicate m none) (List.replicate m .un) []
  | 0 => .nil
  | m + 1 => by rw [List.replicate_succ, List.replicate_succ]; exact .un (RE.uns m)
theorem RE.start : ∀ {vs : List V} {ts : List T} {fp : List Addr} (m : Nat), RTs K F H vs ts fp → RE K F H [] (vs.map some ++ List.replicate m none) (ts.map .is ++ List.replicate m .un) fp
  | _, _, _, m, .nil => RE.uns m
  | _, _, _, m, .cons h hs => .is h (by simp) (RE.start m hs)
theorem Rel.post {fpr : List Addr} (R : Rel K G L P e' F' σ H') : CallPost K G.F0 G.H0 G.M0 F' H' := ⟨R.sub, R.same, R.tups, R.frm, R.live, R.new⟩
theorem Rel.last {mu : Nat} {m : List T} {vs : List V} {fpr : List Addr} (R : Rel K G L (fpr ++ []) e' F' σ H') (hl : lastM mu e' = some m) (hk : mu ≠ 0 → ∃ v rest, vs = v :: rest ∧ σ[0]? = some (some v)) (nd : fpr.Nodup) :
    ∃ fpm, RTs K F' H' (vs.take mu) m fpm ∧ (fpr ++ fpm).Nodup ∧ ∀ a ∈ fpr ++ fpm, F' a = none ∧ (G.H0 a = none ∨ a ∈ G.M0) := by
  obtain ⟨gp, g1, g2, g4, g3⟩ := R.env
  rw [List.append_nil] at g2 g3
  match mu, hl with
  | 0, hl =>
    simp only [lastM, Option.some.injEq] at hl
    subst hl
    refine ⟨[], by simpa using RTs.nil, by simpa using nd, fun a ha => ?_⟩
    have := g3 a (by simp at ha ⊢; exact .inl ha)
    exact ⟨this.1, this.2.2⟩
  | 1, hl =>
    obtain ⟨v, rest, rfl, hv⟩ := hk (by decide)
    simp only [lastM] at hl
    cases es : slotT e' 0 with
    | none => rw [es] at hl; cases hl
    | some t =>
      rw [es] at hl
      simp only [Option.some.injEq] at hl
      subst hl
      have core : ∀ {s : Sl} {o : Option V} {A q B : List Addr}, σ[0]? = some o → gp = A ++ q ++ B → (∃ v', o = some v' ∧ RT K F' H' v' t q) → ∃ fpm, RTs K F' H' ((v :: rest).take 1) [t] fpm ∧ (fpr ++ fpm).Nodup ∧ ∀ a ∈ fpr ++ fpm, F' a = none ∧ (G.H0 a = none ∨ a ∈ G.M0) := fun {s o A q B} a1 e1 ⟨v', e2, rt⟩ => by
        subst e1 e2
        rw [hv] at a1; cases a1
        have sub : (fpr ++ q).Sublist (fpr ++ (A ++ q ++ B)) := List.Sublist.append (List.Sublist.refl _) ((List.sublist_append_right A q).trans (List.sublist_append_left _ B))
        refine ⟨q ++ [], .cons rt .nil, by rw [List.append_nil]; exact nd_sub sub g2, fun a ha => ?_⟩
        rw [List.append_nil] at ha
        have := g3 a (sub.subset ha)
        exact ⟨this.1, this.2.2⟩
      unfold slotT at es
      split at es
      · rename_i t0 q
        cases es
        obtain ⟨o, A, q', B, a1, a2, ⟨v', a3, a4, _⟩, _⟩ := g1.at q
        exact core (s := .un) a1 a2 ⟨v', a3, a4⟩
      · rename_i t0 q
        cases es
        obtain ⟨o, A, q', B, a1, a2, ⟨v', a3, a4, _⟩, _⟩ := g1.at q
        exact core (s := .un) a1 a2 ⟨v', a3, a4⟩
      · cases es
  | n + 2, hl => simp [lastM] at hl
end
theorem fn_fx {P : Program} {wd : World} {K : PySem.W.Frag} {mg : Str → Option Value} {base : Heap} {k : Nat} {f : Addr} {name qual : Str} {params : Arguments} {body : List Stmt} {scope : Scope} {dV kV doc pm cdv ct oc : Value} {an od : Option Addr} {osl : Array (Option Value)} {ps : List Str} {xt : Nat → Option (Value × List Str)}
    (tb : Tb) (C : Cf) (mu : Nat) (b : Ss) (lk : K.lookup f = some ⟨oc, od, .func (PySem.W.fnOf name qual params body scope dV kV doc pm an cdv ct), osl⟩) (hcd : PySem.W.codeIn K cdv qual = true) (S : FnScope tb.N ps scope) (hkp : tb.kp = if mu = 0 then [] else [0]) (hmu : mu ≤ 1) (hps : mu ≤ ps.length)
    (hc : chkSs tb C scope b body = true) (hf : ∀ i fn, C.ft i = some fn → ∃ x qs, tb.fnm i = some (x, qs) ∧ FnT P wd K mg base xt k x qs fn)
    (hg : ∀ i d, C.gt i = some d → ∃ x v u, tb.gnm i = some x ∧ mg x = some u ∧ RelV v u ∧ ∀ F, RP K F v d) (hb : ∀ x ∈ blts, mg (Str.ofString x) = none) :
    FnOk P wd K mg base (L2.CX P wd) (k + 1) f (PySem.W.fnOf name qual params body scope dV kV doc pm an cdv ct) ps (spOf K xt ps.length ⟨mu, runF C tb.N.length mu b⟩) := by
  refine fn_of lk hcd S (fun vs H Q E h => h.choose_spec.choose_spec.choose_spec.1) fun A outer s H vs Q E hr hsp => ?_
  obtain ⟨F, ts, fp, hlen, hs, ht, hts, nd, hfz, hm⟩ := hsp
  let w : Wd := { K := K, xt := xt, W := fun cls d _ H => E cls d H, C := C, kp := tb.kp }
  let G : Gh := { H0 := H, F0 := F, M0 := fp }
  have hpl : ps.length ≤ tb.N.length := by have := congrArg List.length S.pre; rw [List.length_take] at this; omega
  have g : Gd tb w k scope scope (cxOf (L2.CX P wd) P wd K mg base tb.N qual scope f cdv A outer s H E) := {
    K := rfl
    kp := rfl
    N := rfl
    nd := S.nd
    sc := rfl
    calm := rfl
    room := hr
    takes := takes_of rfl rfl rfl rfl
    po := passes_of rfl
    fns := fun i fn h => by
      obtain ⟨x, qs, e, ⟨q⟩⟩ := hf i fn h
      exact ⟨x, qs, e, ⟨q⟩⟩
    gts := hg
    blt := hb
    sto := fun x h => ⟨h, .inl rfl⟩ }
  have R : Rel K G [] [] (startE tb.N.length ts) F (L2.start tb.N vs) H := by
    refine ⟨hs, ⟨fp, ?_, by simpa using nd, by simp, fun a ha => ?_⟩, ht, Same.refl F, fun a ha => .inl ha, fun a o e _ => e, fun a ha => ha, by simp⟩
    · show RE K F H [] (vs.map some ++ List.replicate (tb.N.length - vs.length) none) (ts.map .is ++ List.replicate (tb.N.length - ts.length) .un) fp
      rw [hts.len]
      exact RE.start _ hts
    · obtain ⟨h1, xs, h2⟩ := hts.mem a (by simpa using ha)
      exact ⟨h1, by rw [h2]; simp, .inr (by simpa using ha)⟩
  refine ⟨tSs w b, chkSs_ok b body g hc, G, [], [], startE tb.N.length ts, F, R, ?_⟩
  have hk : ∀ {σ' : SSt}, LkS w.kp (startE tb.N.length ts) (L2.start tb.N vs) σ' → mu ≠ 0 → ∃ v rest, vs = v :: rest ∧ σ'[0]? = some (some v) := fun {σ'} l h0 => by
    cases vs with
    | nil => simp at hlen; omega
    | cons v rest =>
      refine ⟨v, rest, rfl, ?_⟩
      rw [l.kp 0 (by show 0 ∈ tb.kp; rw [hkp, if_neg h0]; simp)]
      simp [L2.start]
  have hm : (match runF C tb.N.length mu b ts with
    | none => False
    | some (.ret r m) => ∀ v F' H' fpr fpm, CallPost K F H fp F' H' → RT K F' H' v r fpr → RTs K F' H' (vs.take mu) m fpm → (fpr ++ fpm).Nodup → (∀ a ∈ fpr ++ fpm, F' a = none ∧ (H a = none ∨ a ∈ fp)) → Q v H'
    | some (.exc c fs m) => ∀ F' H' fpm cls d, CallPost K F H fp F' H' → XR K xt c fs F' H' cls d → RTs K F' H' (vs.take mu) m fpm → fpm.Nodup → (∀ a ∈ fpm, F' a = none ∧ (H a = none ∨ a ∈ fp)) → E cls d H') := hm
  unfold runF at hm
  cases q : exs C b (startE tb.N.length ts) with
  | ok fl e' =>
    rw [q] at hm
    cases fl with
    | nx =>
      simp only at hm
      cases hl : lastM mu e' with
      | none => rw [hl] at hm; exact hm.elim
      | some m =>
        rw [hl] at hm
        intro F' σ' H' R' s' p' l'
        obtain ⟨fpm, a1, a2, a3⟩ := Rel.last (fpr := []) (vs := vs) R' hl (hk l') List.nodup_nil
        exact hm .non F' H' [] fpm (Rel.post (fpr := []) R') (.fz .non) a1 a2 a3
    | rt t =>
      simp only at hm
      cases hl : lastM mu e' with
      | none => rw [hl] at hm; exact hm.elim
      | some m =>
        rw [hl] at hm
        intro v F' σ' H' fpr L' r R' s' p' l'
        have ndr : fpr.Nodup := by
          obtain ⟨gp, _, g2, _⟩ := R'.env
          exact (List.nodup_append.mp (List.nodup_append.mp g2).1).1
        obtain ⟨fpm, a1, a2, a3⟩ := Rel.last (fpr := fpr) (vs := vs) R' hl (hk l') ndr
        exact hm v F' H' fpr fpm (Rel.post (fpr := []) R') r a1 a2 a3
    | bk => exact hm.elim
    | ct => exact hm.elim
  | exc c fs e' =>
    rw [q] at hm
    simp only at hm
    cases hl : lastM mu e' with
    | none => rw [hl] at hm; exact hm.elim
    | some m =>
      rw [hl] at hm
      intro F' σ' H' cls d R' x s' p' l'
      obtain ⟨fpm, a1, a2, a3⟩ := Rel.last (fpr := []) (vs := vs) R' hl (hk l') List.nodup_nil
      exact hm F' H' fpm cls d (Rel.post (fpr := []) R') x a1 (by simpa using a2) (by simpa using a3)
  | bad => rw [q] at hm; exact hm.elim
end Fx

set_option Elab.async false
set_option linter.all false
set_option maxRecDepth 100000
/-! Fx: the defs of a law, one after another; the law's own end. -/
namespace Fx
open PySem PySem.Spec PyProof.Rows L2
def tbOf (N : List Str) (mu : Nat) (fs : List (Str × List Str)) (gn : List Str) : Tb := { N := N, kp := if mu = 0 then [] else [0], fnm := fun i => fs[i]?, gnm := fun i => gn[i]? }
structure AllT (P : Program) (w : World) (K : PySem.W.Frag) (mg : Str → Option Value) (base : Heap) (xt : Nat → Option (Value × List Str)) (fs : List (Str × List Str)) (l : List Fn) : Prop where
  t : ∀ (i : Nat) (fn : Fn), l[i]? = some fn → ∃ x qs, fs[i]? = some (x, qs) ∧ FnT P w K mg base xt l.length x qs fn
section
variable {P : Program} {w : World} {K : PySem.W.Frag} {mg : Str → Option Value} {base : Heap} {xt : Nat → Option (Value × List Str)} {fs : List (Str × List Str)} {gn : List Str} {gs : List D}
theorem AllT.nil : AllT P w K mg base xt fs [] := ⟨fun i fn h => by simp at h⟩
theorem AllT.snoc {l : List Fn} {x : Str} {qs : List Str} {fn : Fn} (A : AllT P w K mg base xt fs l) (hx : fs[l.length]? = some (x, qs)) (h : FnT P w K mg base xt (l.length + 1) x qs fn) : AllT P w K mg base xt fs (l ++ [fn]) := by
  refine ⟨fun i f hi => ?_⟩
  rw [List.length_append, List.length_singleton]
  by_cases hlt : i < l.length
  · rw [List.getElem?_append_left hlt] at hi
    obtain ⟨y, rs, e, t⟩ := A.t i f hi
    exact ⟨y, rs, e, t.mono (Nat.le_succ _)⟩
  · rw [List.getElem?_append_right (by omega)] at hi
    have : i = l.length := by
      cases e : i - l.length with
      | zero => omega
      | succ m => rw [e] at hi; simp at hi
    subst this
    simp at hi
    subst hi
    exact ⟨x, qs, hx, h⟩
/-- what is known of the module's names -/
structure Gls (K : PySem.W.Frag) (mg : Str → Option Value) (gn : List Str) (gs : List D) : Prop where
  g : ∀ (i : Nat) (d : D), gs[i]? = some d → ∃ x v u, gn[i]? = some x ∧ mg x = some u ∧ RelV v u ∧ ∀ F, RP K F v d
  b : ∀ x ∈ blts, mg (Str.ofString x) = none
theorem fnT_fx {l : List Fn} {st : Stmt} {x nm : Str} {f : Addr} {fd : FuncData} {ps N : List Str} {mu : Nat} {b : Ss} (A : AllT P w K mg base xt fs l) (Gs : Gls K mg gn gs) (F : Fun K nm nm st f fd) (hm : mg x = some (.ref f)) (S : FnScope N ps (defScope st)) (hmu : mu ≤ 1) (hps : mu ≤ ps.length)
    (hb : plainA (defArgs st) ps = true)
    (hc : chkSs (tbOf N mu fs gn) (cf gs l) (defScope st) b (defBody st) = true) : FnT P w K mg base xt (l.length + 1) x ps (mkFn gs l N.length mu b) := by
  obtain ⟨oc, od, kV, doc, pm, an, cdv, ct, osl, rfl, lk, hcd⟩ := F.ex
  have nd : ps.Nodup := by simp only [plainA, Bool.and_eq_true, decide_eq_true_eq] at hb; exact hb.2
  have kb : ∀ (kV doc pm : Value) (an : Option Addr) (cdv ct : Value), KBa (PySem.W.fnOf nm nm (defArgs st) (defBody st) (defScope st) .none kV doc pm an cdv ct) ps := fun _ _ _ _ _ _ => kba_plain hb rfl
  refine ⟨f, _, hm, F.kp, F.binds fun kV doc pm an cdv ct us hl => (kb kV doc pm an cdv ct).pos nd us hl, kb kV doc pm an cdv ct, ?_⟩
  exact fn_fx (tbOf N mu fs gn) (cf gs l) mu b lk hcd S rfl hmu hps hc (fun i fn h => A.t i fn h) Gs.g Gs.b
theorem AllT.step {l : List Fn} {st : Stmt} {x nm : Str} {f : Addr} {fd : FuncData} {ps N : List Str} {mu : Nat} {b : Ss} (A : AllT P w K mg base xt fs l) (Gs : Gls K mg gn gs) (hx : fs[l.length]? = some (x, ps)) (F : Fun K nm nm st f fd) (hm : mg x = some (.ref f)) (S : FnScope N ps (defScope st)) (hmu : mu ≤ 1) (hps : mu ≤ ps.length)
    (hb : plainA (defArgs st) ps = true)
    (hc : chkSs (tbOf N mu fs gn) (cf gs l) (defScope st) b (defBody st) = true) : AllT P w K mg base xt fs (l ++ [mkFn gs l N.length mu b]) := A.snoc hx (fnT_fx A Gs F hm S hmu hps hb hc)
/-- the law's promise -/
def spLaw (K : PySem.W.Frag) (n : Nat) : Sp := fun vs H Q _ => ∃ (a : Addr) (ns : List Int), vs = [.ref a] ∧ SqL K H a (ns.map V.int) ∧ ns.length ≤ n ∧ ∀ H', Q (.bl true) H'
theorem law_sp {n : Nat} {fn : Fn} (hmu : fn.mu = 0) (h : ∀ ns : List Int, ns.length ≤ n → ∃ m, fn.f [.fz (.rol (ns.map .int))] = some (.ret (.fz (.bl true)) m)) (vs : List V) (H : Hp) (Q : VK) (E : XK) (hs : spLaw K n vs H Q E) : spOf K xt 1 fn vs H Q E := by
  obtain ⟨a, ns, rfl, hS, hl, q⟩ := hs
  obtain ⟨m, e⟩ := h ns hl
  have hr : RP K H (.ref a) (.rol (ns.map .int)) := .rol hS (rps_ints ns)
  refine ⟨H, [.fz (.rol (ns.map .int))], [], rfl, Same.refl H, fun _ _ h => h, .cons (fp := []) (fps := []) (.fz hr) .nil, List.nodup_nil, by rw [hmu]; rfl, ?_⟩
  rw [e]
  intro v F' H' fpr fpm _ hv _ _ _
  cases hv with
  | fz hv => cases hv; exact q H'
theorem cx_none {P : Program} {w : World} (H : Hp) (s : Shared) (e : Value) (s' : Shared) (h : L2.CX P w [] H s (fun _ _ _ => False) e s') : False := by
  obtain ⟨_, _, _, _, _, _, _, _, _, _, _, _, z⟩ := h
  exact z
/-- the law's def, for every heap below -/
theorem law_fx {n : Nat} {l : List Fn} {st : Stmt} {f : Addr} {fd : FuncData} {N : List Str} {b : Ss} {x nm : Str} (A : ∀ base, AllT P w K mg base xt fs l) (Gs : Gls K mg gn gs) (F : Fun K nm nm st f fd) (S : FnScope N [x] (defScope st))
    (hb : plainA (defArgs st) [x] = true) (hc : chkSs (tbOf N 0 fs gn) (cf gs l) (defScope st) b (defBody st) = true) (h : ∀ ns : List Int, ns.length ≤ n → ∃ m, (mkFn gs l N.length 0 b).f [.fz (.rol (ns.map .int))] = some (.ret (.fz (.bl true)) m)) :
    (∀ (s : Shared) (u : Value), BindsTo s fd ⟨[u], []⟩ [(x, u)]) ∧ ∀ base : Heap, FnOk P w K mg base (L2.CX P w) (l.length + 1) f fd [x] (spLaw K n) := by
  obtain ⟨oc, od, kV, doc, pm, an, cdv, ct, osl, rfl, lk, hcd⟩ := F.ex
  have nd : [x].Nodup := List.nodup_cons.mpr ⟨by simp, List.nodup_nil⟩
  have kb : KBa (PySem.W.fnOf nm nm (defArgs st) (defBody st) (defScope st) .none kV doc pm an cdv ct) [x] := kba_plain hb rfl
  refine ⟨fun s u => .of_eq (kb.pos nd [u] rfl), fun base => ?_⟩
  exact (fn_fx (tbOf N 0 fs gn) (cf gs l) 0 b lk hcd S rfl (by omega) (by simp) hc (fun i fn h => (A base).t i fn h) Gs.g Gs.b).imp fun vs H Q E hs => law_sp (fn := mkFn gs l N.length 0 b) rfl h vs H Q E hs
/-- a def as the top has left it -/
def DefH (K : PySem.W.Frag) (x nm : Str) (st : Stmt) : Prop := ∃ f fd, PySem.W.nsIn K mainGlobals x = some (some (.ref f)) ∧ Fun K nm nm st f fd
theorem DefH.mk {x nm : Str} {st : Stmt} {f : Addr} {oc : Value} {od an : Option Addr} {osl : Array (Option Value)} {kV doc pm cdv ct : Value} (a : PySem.W.nsIn K mainGlobals x = some (some (.ref f)))
    (l : K.lookup f = some ⟨oc, od, .func (PySem.W.fnOf nm nm (defArgs st) (defBody st) (defScope st) .none kV doc pm an cdv ct), osl⟩) (c : PySem.W.codeIn K cdv nm = true) (k : PySem.W.keepIn K (.ref f) = true) : DefH K x nm st := ⟨f, _, a, fun_mk l c k⟩
/-- a constant -/
def GlH (K : PySem.W.Frag) (x : Str) (d : D) : Prop := ∃ v u, PySem.W.nsIn K mainGlobals x = some (some u) ∧ RelV v u ∧ ∀ F, RP K F v d
theorem GlH.int {x : Str} {i : Int} {t : Tok} (a : PySem.W.nsIn K mainGlobals x = some (some (.int i t))) : GlH K x (.int i) := ⟨.int i, _, a, ⟨t, rfl⟩, fun _ => .int i⟩
theorem GlH.str {x y : Str} {t : Tok} (a : PySem.W.nsIn K mainGlobals x = some (some (.str y t))) : GlH K x (.str y) := ⟨.str y, _, a, ⟨t, rfl⟩, fun _ => .str y⟩
/-- all constants of a list -/
inductive GlHs (K : PySem.W.Frag) : List Str → List D → Prop
  | nil : GlHs K [] []
  | cons {x : Str} {d : D} {xs : List Str} {ds : List D} : GlH K x d → GlHs K xs ds → GlHs K (x :: xs) (d :: ds)
theorem GlHs.get {h : Heap} (X : K.In h) (G : h.Ns mainGlobals mg) : ∀ {gn : List Str} {gs : List D}, GlHs K gn gs → ∀ (i : Nat) (d : D), gs[i]? = some d → ∃ x v u, gn[i]? = some x ∧ mg x = some u ∧ RelV v u ∧ ∀ F, RP K F v d
  | _, _, .nil, _, _, h => by simp at h
  | _, _, .cons h _, 0, d, e => by
    simp at e; subst e
    obtain ⟨v, u, a, b, c⟩ := h
    exact ⟨_, v, u, rfl, PySem.W.mg_of X G a, b, c⟩
  | _, _, .cons _ hs, i + 1, d, e => by
    simp at e
    obtain ⟨x, v, u, a, b⟩ := GlHs.get X G hs i d e
    exact ⟨x, v, u, by simpa using a, b⟩
theorem Gls.mk' {h : Heap} (X : K.In h) (G : h.Ns mainGlobals mg) (g : GlHs K gn gs) (b : ∀ x ∈ blts, PySem.W.nsIn K mainGlobals (Str.ofString x) = some none) : Gls K mg gn gs :=
  ⟨g.get X G, fun x hx => PySem.W.mg_none_of X G (b x hx)⟩
theorem AllT.def {h : Heap} (X : K.In h) (G : h.Ns mainGlobals mg) {l : List Fn} {st : Stmt} {x nm : Str} {ps N : List Str} {mu : Nat} {b : Ss} (Gs : Gls K mg gn gs) (A : ∀ base, AllT P w K mg base xt fs l) (hx : fs[l.length]? = some (x, ps)) (d : DefH K x nm st) (S : FnScope N ps (defScope st)) (hmu : mu ≤ 1) (hps : mu ≤ ps.length)
    (hb : plainA (defArgs st) ps = true) (hc : chkSs (tbOf N mu fs gn) (cf gs l) (defScope st) b (defBody st) = true) : ∀ base, AllT P w K mg base xt fs (l ++ [mkFn gs l N.length mu b]) := fun base => by
  obtain ⟨f, fd, a, F⟩ := d
  exact (A base).step Gs hx F (PySem.W.mg_of X G a) S hmu hps hb hc
end
end Fx

set_option Elab.async false
set_option linter.all false
set_option maxRecDepth 100000
/-! Fx: the evaluator's equations, for simp; its loops. -/
namespace Fx.Fo
open PySem
/-! ### outcomes -/
@[simp] theorem bnd_ok {α β : Type} (a : α) (e : Env) (f : α → Env → Out β) : (Out.ok a e).bnd f = f a e := (rfl)
@[simp] theorem bnd_bad {α β : Type} (f : α → Env → Out β) : (Out.bad).bnd f = .bad := (rfl)
@[simp] theorem bnd_exc {α β : Type} (c : Nat) (fs : List D) (e : Env) (f : α → Env → Out β) : (Out.exc c fs e).bnd f = .exc c fs e := (rfl)
@[simp] theorem nox_ok {α : Type} (a : α) (e : Env) : (Out.ok a e).nox = .ok a e := (rfl)
@[simp] theorem stl_t (x : T) (e : Env) : (Out.ok (.t x) e).stl = .ok (.t x) e := (rfl)
@[simp] theorem stl_p (i : Nat) (e : Env) : (Out.ok (.p i []) e).stl = .ok (.p i []) e := (rfl)
@[simp] theorem ul_ok {α : Type} (ls : List (Nat × T)) (a : α) (e : Env) : (Out.ok a e).ul ls = .ok a (unlock ls e) := (rfl)
@[simp] theorem unlock_nil (e : Env) : unlock [] e = e := (rfl)
@[simp] theorem unlock_one (i : Nat) (t : T) (is : List (Nat × T)) (e : Env) : unlock ((i, t) :: is) e = unlock is (e.set i (.is t)) := (rfl)
@[simp] theorem bnd_ite {α β : Type} (b : Prop) [Decidable b] (x y : Out α) (f : α → Env → Out β) : (if b then x else y).bnd f = if b then x.bnd f else y.bnd f := by split <;> rfl
/-- what is there, or nothing good -/
def optO {α β : Type} (o : Option α) (k : α → Out β) : Out β := match o with
    | some a => k a
    | none => .bad
@[simp] theorem optO_some {α β : Type} (a : α) (k : α → Out β) : optO (some a) k = k a := (rfl)
@[simp] theorem optO_none {α β : Type} (k : α → Out β) : optO none k = .bad := (rfl)
def optP {α β : Type} (o : Option α) (k : α → Option β) : Option β := match o with
    | some a => k a
    | none => none
@[simp] theorem optP_some {α β : Type} (a : α) (k : α → Option β) : optP (some a) k = k a := (rfl)
@[simp] theorem optP_none {α β : Type} (k : α → Option β) : optP none k = none := (rfl)
@[simp] theorem optO_ite {α β : Type} (b : Prop) [Decidable b] (x y : Option α) (k : α → Out β) : optO (if b then x else y) k = if b then optO x k else optO y k := by split <;> rfl
/-- a whole number -/
def intO {β : Type} (o : Option D) (k : Int → Out β) : Out β := match o with
    | some (.int i) => k i
    | _ => .bad
@[simp] theorem intO_i {β : Type} (i : Int) (k : Int → Out β) : intO (some (.int i)) k = k i := (rfl)
/-- a slot's reading -/
def rdS (s : Option Sl) (i : Nat) (e : Env) : Out R := match s with
    | some (.is (.fz d)) => .ok (.t (.fz d)) e
    | some (.lk (.fz d)) => .ok (.t (.fz d)) e
    | some (.is _) => .ok (.p i []) e
    | some (.lk _) => .ok (.p i []) e
    | _ => .bad
@[simp] theorem rdS_f (d : D) (i : Nat) (e : Env) : rdS (some (.is (.fz d))) i e = .ok (.t (.fz d)) e := (rfl)
@[simp] theorem rdS_lf (d : D) (i : Nat) (e : Env) : rdS (some (.lk (.fz d))) i e = .ok (.t (.fz d)) e := (rfl)
@[simp] theorem rdS_o (ts : List T) (i : Nat) (e : Env) : rdS (some (.is (.own ts))) i e = .ok (.p i []) e := (rfl)
@[simp] theorem rdS_lo (ts : List T) (i : Nat) (e : Env) : rdS (some (.lk (.own ts))) i e = .ok (.p i []) e := (rfl)
@[simp] theorem rdS_t (ts : List T) (i : Nat) (e : Env) : rdS (some (.is (.tup ts))) i e = .ok (.p i []) e := (rfl)
@[simp] theorem rdS_ol (ds : List D) (i : Nat) (e : Env) : rdS (some (.is (ol ds))) i e = .ok (.p i []) e := (rfl)
/-- a slot's tree -/
def trS (s : Option Sl) : Option T := match s with
    | some (.is t) => some t
    | some (.lk t) => some t
    | _ => none
@[simp] theorem trS_i (t : T) : trS (some (.is t)) = some t := (rfl)
@[simp] theorem trS_l (t : T) : trS (some (.lk t)) = some t := (rfl)
/-- a slot that is free for its frame -/
def isS {β : Type} (s : Option Sl) (k : T → Out β) : Out β := match s with
    | some (.is t) => k t
    | _ => .bad
@[simp] theorem isS_i {β : Type} (t : T) (k : T → Out β) : isS (some (.is t)) k = k t := (rfl)
def isP {β : Type} (s : Option Sl) (k : T → Option β) (l : T → Option β) : Option β := match s with
    | some (.is t) => k t
    | some (.lk t) => l t
    | _ => none
@[simp] theorem isP_i {β : Type} (t : T) (k l : T → Option β) : isP (some (.is t)) k l = k t := (rfl)
@[simp] theorem isP_l {β : Type} (t : T) (k l : T → Option β) : isP (some (.lk t)) k l = l t := (rfl)
/-- a tree that is kept: data at once, else frozen -/
def mvT (t : T) (x : D → Option (T × Env)) (y : T → Option (T × Env)) : Option (T × Env) := match t with
    | .fz d => x d
    | u => y u
@[simp] theorem mvT_f (d : D) (x : D → Option (T × Env)) (y : T → Option (T × Env)) : mvT (.fz d) x y = x d := (rfl)
@[simp] theorem mvT_o (ts : List T) (x : D → Option (T × Env)) (y : T → Option (T × Env)) : mvT (.own ts) x y = y (.own ts) := (rfl)
@[simp] theorem mvT_ol (ds : List D) (x : D → Option (T × Env)) (y : T → Option (T × Env)) : mvT (ol ds) x y = y (ol ds) := (rfl)
@[simp] theorem mvT_t (ts : List T) (x : D → Option (T × Env)) (y : T → Option (T × Env)) : mvT (.tup ts) x y = y (.tup ts) := (rfl)
def ownK {β : Type} (t : T) (k : List T → Out β) : Out β := match t with
    | .own ts => k ts
    | _ => .bad
@[simp] theorem ownK_o {β : Type} (ts : List T) (k : List T → Out β) : ownK (.own ts) k = k ts := (rfl)
@[simp] theorem ownK_ol {β : Type} (ds : List D) (k : List T → Out β) : ownK (ol ds) k = k (ds.map .fz) := (rfl)
/-- by a call's result -/
def resO (o : Option Res) (k : T → List T → Out R) (x : Nat → List D → List T → Out R) : Out R := match o with
    | some (.ret r m) => k r m
    | some (.exc c fs m) => x c fs m
    | none => .bad
@[simp] theorem resO_r (r : T) (m : List T) (k : T → List T → Out R) (x : Nat → List D → List T → Out R) : resO (some (.ret r m)) k x = k r m := (rfl)
@[simp] theorem resO_x (c : Nat) (fs : List D) (m : List T) (k : T → List T → Out R) (x : Nat → List D → List T → Out R) : resO (some (.exc c fs m)) k x = x c fs m := (rfl)
@[simp] theorem resO_ite (b : Prop) [Decidable b] (p q : Option Res) (k : T → List T → Out R) (x : Nat → List D → List T → Out R) : resO (if b then p else q) k x = if b then resO p k x else resO q k x := by split <;> rfl
def oneK {β : Type} (m : List T) (k : T → Out β) : Out β := match m with
    | [t] => k t
    | _ => .bad
@[simp] theorem oneK_1 {β : Type} (t : T) (k : T → Out β) : oneK [t] k = k t := (rfl)
/-- where a list is told -/
def isLst (o : Option D) : Bool := match o with
  | some (.lst _) => true
  | _ => false
@[simp] theorem isLst_l (ds : List D) : isLst (some (.lst ds)) = true := (rfl)
/-- a slot of a walk's own -/
def freeS (s : Option Sl) : Bool := match s with
  | some .un => true
  | some (.is (.fz _)) => true
  | _ => false
@[simp] theorem freeS_u : freeS (some .un) = true := (rfl)
@[simp] theorem freeS_f (d : D) : freeS (some (.is (.fz d))) = true := (rfl)
/-- two lists or two tuples -/
def zipK (o : Option (List D × Env)) : Out (List D × List (Nat × T)) := match o with
    | some ([.lst xs, .lst ys], e3) => .ok (zipL xs ys, []) e3
    | some ([.tup xs, .tup ys], e3) => .ok (zipL xs ys, []) e3
    | _ => .bad
@[simp] theorem zipK_l (xs ys : List D) (e : Env) : zipK (some ([.lst xs, .lst ys], e)) = .ok (zipL xs ys, []) e := (rfl)
@[simp] theorem zipK_t (xs ys : List D) (e : Env) : zipK (some ([.tup xs, .tup ys], e)) = .ok (zipL xs ys, []) e := (rfl)
/-! ### trees -/
@[simp] theorem er_fz (d : D) : (T.fz d).er = d := (rfl)
@[simp] theorem er_own (ts : List T) : (T.own ts).er = .lst (ers ts) := (rfl)
@[simp] theorem er_tup (ts : List T) : (T.tup ts).er = .tup (ers ts) := (rfl)
@[simp] theorem ers_nil : ers [] = [] := (rfl)
@[simp] theorem ers_cons (t : T) (ts : List T) : ers (t :: ts) = t.er :: ers ts := (rfl)
@[simp] theorem ers_app (xs ys : List T) : ers (xs ++ ys) = ers xs ++ ers ys := by
  induction xs with
  | nil => rfl
  | cons x xs ih => simp [ih]
@[simp] theorem ers_fz : ∀ (ds : List D), ers (ds.map T.fz) = ds
  | [] => rfl
  | d :: ds => by simp [ers_fz ds]
theorem ers_map {α : Type} (g : α → T) : ∀ (xs : List α), ers (xs.map g) = xs.map fun x => (g x).er
  | [] => rfl
  | x :: xs => by simp [ers_map g xs]
@[simp] theorem er_ol (ds : List D) : (ol ds).er = .lst ds := by simp [ol]
@[simp] theorem isFz_fz (d : D) : T.isFz (.fz d) = true := (rfl)
@[simp] theorem isFz_own (ts : List T) : T.isFz (.own ts) = false := (rfl)
@[simp] theorem all_fz (ds : List D) : (ds.map T.fz).all T.isFz = true := by induction ds <;> simp_all
@[simp] theorem mkTup_fz (ds : List D) : mkTup (ds.map .fz) = .fz (.tup ds) := by simp [mkTup]
@[simp] theorem mkTup_1 (a : D) : mkTup [.fz a] = .fz (.tup [a]) := (rfl)
@[simp] theorem mkTup_2 (a b : D) : mkTup [.fz a, .fz b] = .fz (.tup [a, b]) := (rfl)
@[simp] theorem mkTup_3 (a b c : D) : mkTup [.fz a, .fz b, .fz c] = .fz (.tup [a, b, c]) := (rfl)
@[simp] theorem kids_fz (d : D) : (T.fz d).kids = .fz d := (rfl)
@[simp] theorem kids_own (ts : List T) : (T.own ts).kids = .own ((ers ts).map .fz) := (rfl)
@[simp] theorem kids_ol (ds : List D) : (ol ds).kids = ol ds := by simp [ol]
@[simp] theorem scal_non : (T.fz .non).scal = true := (rfl)
@[simp] theorem scal_bl (b : Bool) : (T.fz (.bl b)).scal = true := (rfl)
@[simp] theorem scal_int (i : Int) : (T.fz (.int i)).scal = true := (rfl)
@[simp] theorem scal_str (x : Str) : (T.fz (.str x)).scal = true := (rfl)
@[simp] theorem scal_tup (ds : List D) : (T.fz (.tup ds)).scal = false := (rfl)
@[simp] theorem scal_lst (ds : List D) : (T.fz (.lst ds)).scal = false := (rfl)
@[simp] theorem scal_own (ts : List T) : (T.own ts).scal = false := (rfl)
@[simp] theorem scal_ol (ds : List D) : (ol ds).scal = false := (rfl)
@[simp] theorem getP_nil (t : T) : getP t [] = some t := by cases t <;> rfl
@[simp] theorem setP_nil (t u : T) : setP t [] u = some u := by cases t <;> rfl
@[simp] theorem slotT_eq (e : Env) (i : Nat) : slotT e i = trS e[i]? := (rfl)
@[simp] theorem rd_t (e : Env) (x : T) : rd e (.t x) = some x.er := (rfl)
@[simp] theorem rd_p (e : Env) (i : Nat) (ks : List Nat) : rd e (.p i ks) = optP (slotT e i) fun t => optP (getP t ks) fun u => some u.er := by
  simp only [rd]
  cases slotT e i with
  | none => rfl
  | some t => simp only [optP_some]; cases getP t ks <;> rfl
@[simp] theorem rds_nil (e : Env) : rds e [] = some [] := (rfl)
@[simp] theorem rds_cons (e : Env) (r : R) (rs : List R) : rds e (r :: rs) = optP (rd e r) fun d => optP (rds e rs) fun ds => some (d :: ds) := by
  simp only [rds]
  cases rd e r <;> cases rds e rs <;> rfl
@[simp] theorem mv_t (x : T) (e : Env) : mv (.t x) e = some (x, e) := (rfl)
@[simp] theorem mv_p (i : Nat) (ks : List Nat) (e : Env) : mv (.p i ks) e = isP e[i]? (fun t => optP (getP t ks) fun u => mvT u (fun d => some (.fz d, e)) fun u => optP (setP t ks (.fz u.er)) fun t' => some (.fz u.er, e.set i (.is t')))
    (fun t => optP (getP t ks) fun u => mvT u (fun d => some (.fz d, e)) fun _ => none) := by
  simp only [mv]
  cases e[i]? with
  | none => rfl
  | some s =>
    cases s with
    | un => rfl
    | is t =>
      simp only [isP_i]
      cases getP t ks with
      | none => rfl
      | some u => cases u <;> simp only [optP_some, mvT_f, mvT_o, mvT_t] <;> first | rfl | (split <;> simp_all) | (simp only [mvT]; split <;> simp_all)
    | lk t =>
      simp only [isP_l]
      cases getP t ks with
      | none => rfl
      | some u => cases u <;> rfl
@[simp] theorem mvs_nil (e : Env) : mvs [] e = some ([], e) := (rfl)
@[simp] theorem mvs_cons (r : R) (rs : List R) (e : Env) : mvs (r :: rs) e = optP (mv r e) fun p => optP (mvs rs p.2) fun q => some (p.1 :: q.1, q.2) := by
  simp only [mvs]
  cases mv r e with
  | none => rfl
  | some p => simp only [optP_some]; cases mvs rs p.2 <;> rfl
@[simp] theorem mvF_eq (r : R) (e : Env) : mvF r e = optP (mv r e) fun p => some (p.1.er, p.2) := by
  simp only [mvF]
  cases mv r e <;> rfl
@[simp] theorem mvFs_nil (e : Env) : mvFs [] e = some ([], e) := (rfl)
@[simp] theorem mvFs_cons (r : R) (rs : List R) (e : Env) : mvFs (r :: rs) e = optP (mvF r e) fun p => optP (mvFs rs p.2) fun q => some (p.1 :: q.1, q.2) := by
  simp only [mvFs]
  cases mvF r e with
  | none => rfl
  | some p => simp only [optP_some]; cases mvFs rs p.2 <;> rfl
@[simp] theorem kidsR_t (x : T) (e : Env) : kidsR (.t x) e = some e := (rfl)
@[simp] theorem kidsR_p (i : Nat) (ks : List Nat) (e : Env) : kidsR (.p i ks) e = isP e[i]? (fun t => optP (getP t ks) fun u => optP (setP t ks u.kids) fun t' => some (e.set i (.is t')))
    (fun t => match getP t ks with
      | some (.own ts) => if ts.all T.isFz then some e else none
      | some (.fz _) => some e
      | _ => none) := by
  simp only [kidsR]
  cases e[i]? with
  | none => rfl
  | some s =>
    cases s with
    | un => rfl
    | is t =>
      simp only [isP_i]
      cases getP t ks with
      | none => rfl
      | some u => simp only [optP_some]; cases setP t ks u.kids <;> rfl
    | lk t => rfl
@[simp] theorem kidsRs_nil (e : Env) : kidsRs [] e = some e := (rfl)
@[simp] theorem kidsRs_cons (r : R) (rs : List R) (e : Env) : kidsRs (r :: rs) e = optP (kidsR r e) fun e1 => kidsRs rs e1 := by
  simp only [kidsRs]
  cases kidsR r e <;> rfl
/-! ### expressions -/
/-- by a truth -/
def tbr {α : Type} (o : Option Bool) (x y : Out α) : Out α := match o with
    | some true => x
    | some false => y
    | none => .bad
@[simp] theorem tbr_some {α : Type} (b : Bool) (x y : Out α) : tbr (some b) x y = if b = true then x else y := by cases b <;> rfl
@[simp] theorem tbr_none {α : Type} (x y : Out α) : tbr none x y = .bad := (rfl)
/-- a truth -/
def tru1 (o : Option Bool) (e : Env) : Out Bool := match o with
    | some k => .ok k e
    | none => .bad
@[simp] theorem tru1_some (b : Bool) (e : Env) : tru1 (some b) e = .ok b e := (rfl)
section
variable (C : Cf) (e : Env)
@[simp] theorem ev_c (d : D) : ev C (.c d) e = .ok (.t (.fz d)) e := (rfl)
@[simp] theorem ev_v (i : Nat) : ev C (.v i) e = rdS e[i]? i e := (rfl)
@[simp] theorem ev_g (n : Nat) : ev C (.g n) e = optO (C.gt n) fun d => .ok (.t (.fz d)) e := by
  simp only [ev]
  cases C.gt n <;> rfl
@[simp] theorem ev_bin (o : Operator) (a b : E) : ev C (.bin o a b) e = (ev C a e).stl.bnd fun l e1 => (ev C b e1).stl.bnd fun r e2 => binR o l r e2 := (rfl)
@[simp] theorem ev_neg (a : E) : ev C (.neg a) e = (ev C a e).bnd fun l e1 => intO (rd e1 l) fun i => .ok (.t (.fz (.int (-i)))) e1 := (rfl)
@[simp] theorem ev_cmp (a : E) (r : Cs) : ev C (.cmp a r) e = (ev C a e).stl.bnd fun l e1 => (evc C r l e1).bnd fun k e2 => .ok (.t (.fz (.bl k))) e2 := (rfl)
@[simp] theorem ev_and (a b : E) : ev C (.and a b) e = (ev C a e).bnd fun l e1 => tbr (truR l e1) (ev C b e1) (.ok l e1) := (rfl)
@[simp] theorem ev_or (a b : E) : ev C (.or a b) e = (ev C a e).bnd fun l e1 => tbr (truR l e1) (.ok l e1) (ev C b e1) := (rfl)
@[simp] theorem ev_not (a : E) : ev C (.not a) e = (ev C a e).bnd fun l e1 => (tru1 (truR l e1) e1).bnd fun k e2 => .ok (.t (.fz (.bl (!k)))) e2 := by
  show (ev C a e).bnd _ = _
  congr 1; funext l e1
  cases truR l e1 <;> rfl
@[simp] theorem ev_ife (c a b : E) : ev C (.ife c a b) e = (ev C c e).bnd fun l e1 => tbr (truR l e1) (ev C a e1) (ev C b e1) := (rfl)
@[simp] theorem ev_tup (es : Es) : ev C (.tup es) e = (evs C es e).bnd fun rs e1 => optO (mvs rs e1) fun p => if p.1.length ≤ sizeL then .ok (.t (mkTup p.1)) p.2 else .bad := by
  simp only [ev]
  congr 1; funext rs e1
  cases mvs rs e1 <;> rfl
@[simp] theorem ev_lst (es : Es) : ev C (.lst es) e = (evs C es e).bnd fun rs e1 => optO (mvs rs e1) fun p => if p.1.length ≤ sizeL then .ok (.t (.own p.1)) p.2 else .bad := by
  simp only [ev]
  congr 1; funext rs e1
  cases mvs rs e1 <;> rfl
@[simp] theorem ev_call (f : Nat) (es : Es) (perm : List Nat) : ev C (.call f es perm) e = (evs C es e).bnd fun rs e1 => optO (C.ft f) fun fn => callF fn (if perm.isEmpty then rs else perm.map fun k => rs.getD k default) e1 := by
  simp only [ev]
  congr 1; funext rs e1
  cases C.ft f <;> rfl
@[simp] theorem ev_bi (b : Bi) (es : Es) : ev C (.bi b es) e = (evs C es e).bnd fun rs e1 => biR b rs e1 := (rfl)
@[simp] theorem ev_meth (m : Mt) (o : E) (es : Es) : ev C (.meth m o es) e = (ev C o e).bnd fun r e1 => if okL r e1 && isL r e1 then ((evs C es (lockR r e1).2).ul (lockR r e1).1).bnd fun rs e2 => mtR m r rs e2 else .bad := (rfl)
@[simp] theorem ev_sub (a b : E) : ev C (.sub a b) e = (ev C a e).bnd fun l e1 => if okL l e1 then ((ev C b (lockR l e1).2).ul (lockR l e1).1).bnd fun r e2 => optO (rd e2 r) fun d => rR (subR l d e2) e2 else .bad := by
  simp only [ev]
  congr 1; funext l e1
  split
  · congr 1; funext r e2
    cases rd e2 r <;> rfl
  · rfl
@[simp] theorem ev_slc (a : E) (lo hi : Oe) : ev C (.slc a lo hi) e = (ev C a e).stl.bnd fun l e1 => (evo C lo e1).bnd fun i e2 => (evo C hi e2).bnd fun j e3 => optO (rd e3 l) fun d => optO (sliceD d i j) fun t => optO (kidsR l e3) fun e4 => .ok (.t t) e4 := by
  simp only [ev]
  congr 1; funext l e1
  congr 1; funext i e2
  congr 1; funext j e3
  cases rd e3 l with
  | none => rfl
  | some d =>
    simp only [optO_some]
    cases sliceD d i j with
    | none => rfl
    | some t => simp only [optO_some]; cases kidsR l e3 <;> rfl
@[simp] theorem ev_rev (a : E) : ev C (.rev a) e = (ev C a e).stl.bnd fun l e1 => optO (rd e1 l) fun d => optO (revD d) fun t => optO (kidsR l e1) fun e4 => .ok (.t t) e4 := by
  simp only [ev]
  congr 1; funext l e1
  cases rd e1 l with
  | none => rfl
  | some d =>
    simp only [optO_some]
    cases revD d with
    | none => rfl
    | some t => simp only [optO_some]; cases kidsR l e1 <;> rfl
/-- a walked comprehension: what it does at one item -/
def compB (own : List Nat) (x : E) (tg : Tg) (ifs : Oe) : D → Env → Out (List T) := fun d e2 => match asgT tg (.fz d) e2 with
        | none => .bad
        | some e3 => (evt C ifs e3).bnd fun k e4 => if k then (ev C x e4).bnd fun r e5 => (match mv r e5 with
            | some (t, e6) => .ok [t] (wipeE own e6)
            | none => .bad) else .ok [] (wipeE own e4)
@[simp] theorem ev_comp (own : List Nat) (x : E) (tg : Tg) (it : It) (ifs : Oe) : ev C (.comp own x tg it ifs) e = (evi C it e).bnd fun o e1 => if ownOk own e1 then
      (compL (compB C own x tg ifs) o.1 (wipeE own e1)).bnd fun ts e7 => .ok (.t (.own ts)) (unlock o.2 (backE e1 own e7)) else .bad := (rfl)
/-- the outer walk of two -/
def compB2 (own : List Nat) (x : E) (tg : Tg) (ifs : Oe) (own1 : List Nat) (tg1 : Tg) (it1 : It) (ifs1 : Oe) : D → Env → Out (List T) := fun d e2 => match asgT tg (.fz d) e2 with
        | none => .bad
        | some e3 => (evt C ifs e3).bnd fun k e4 => if k then (evi C it1 e4).bnd fun o1 e5 => if ownOk own1 e5 then
            (compL (compB C own1 x tg1 ifs1) o1.1 (wipeE own1 e5)).bnd fun ts e11 => .ok ts (wipeE own (unlock o1.2 e11)) else .bad
          else .ok [] (wipeE own e4)
@[simp] theorem ev_comp2 (own : List Nat) (x : E) (tg : Tg) (it : It) (ifs : Oe) (own1 : List Nat) (tg1 : Tg) (it1 : It) (ifs1 : Oe) : ev C (.comp2 own x tg it ifs own1 tg1 it1 ifs1) e = (evi C it e).bnd fun o e1 => if ownOk own e1 && own1.all own.contains then
      (compL (compB2 C own x tg ifs own1 tg1 it1 ifs1) o.1 (wipeE own e1)).bnd fun ts e7 => .ok (.t (.own ts)) (unlock o.2 (backE e1 own e7)) else .bad := (rfl)
@[simp] theorem evs_nil : evs C .nil e = .ok [] e := (rfl)
@[simp] theorem evs_cons (x : E) (es : Es) : evs C (.cons x es) e = (ev C x e).stl.bnd fun r e1 => (evs C es e1).bnd fun rs e2 => .ok (r :: rs) e2 := (rfl)
@[simp] theorem evc_one (o : CmpOp) (b : E) (l : R) : evc C (.one o b) l e = (ev C b e).stl.bnd fun r e1 => cmpR o l r e1 := (rfl)
@[simp] theorem evc_more (o : CmpOp) (b : E) (rest : Cs) (l : R) : evc C (.more o b rest) l e = (ev C b e).stl.bnd fun r e1 => (cmpR o l r e1).bnd fun k e2 => if k then evc C rest r e2 else .ok false e2 := (rfl)
@[simp] theorem evo_none : evo C .none e = .ok none e := (rfl)
@[simp] theorem evo_some (x : E) : evo C (.some x) e = (ev C x e).bnd fun r e1 => intO (rd e1 r) fun i => .ok (some i) e1 := (rfl)
@[simp] theorem evt_none : evt C .none e = .ok true e := (rfl)
@[simp] theorem evt_some (x : E) : evt C (.some x) e = (ev C x e).bnd fun r e1 => tru1 (truR r e1) e1 := (rfl)
@[simp] theorem evi_e (x : E) : evi C (.e x) e = (ev C x e).bnd fun r e1 => optO (opened r e1) fun p => .ok p.1 p.2 := by
  simp only [evi]
  congr 1; funext r e1
  cases opened r e1 <;> rfl
@[simp] theorem evi_rng1 (a : E) : evi C (.rng1 a) e = (ev C a e).bnd fun r e1 => intO (rd e1 r) fun n => if small62 n then .ok (rngL 0 n, []) e1 else .bad := (rfl)
@[simp] theorem evi_rng2 (a b : E) : evi C (.rng2 a b) e = (ev C a e).stl.bnd fun l e1 => (ev C b e1).stl.bnd fun r e2 => intO (rd e2 l) fun m => intO (rd e2 r) fun n => if small62 m && small62 n then .ok (rngL m n, []) e2 else .bad := by
  simp only [evi]
  congr 1; funext l e1
  congr 1; funext r e2
  cases rd e2 l with
  | none => rfl
  | some d =>
    cases d with
    | int m =>
      simp only [intO_i]
      cases rd e2 r with
      | none => rfl
      | some d => cases d <;> rfl
    | _ => rfl
@[simp] theorem evi_enum (x : E) : evi C (.enum x) e = (ev C x e).bnd fun r e1 => optO (mvF r e1) fun p => optO (itemsD p.1) fun ds => .ok (enumL ds, []) p.2 := by
  simp only [evi]
  congr 1; funext r e1
  cases mvF r e1 with
  | none => rfl
  | some p => simp only [optO_some]; cases itemsD p.1 <;> rfl
@[simp] theorem evi_zip (x y : E) : evi C (.zip x y) e = (ev C x e).stl.bnd fun l e1 => (ev C y e1).stl.bnd fun r e2 => zipK (mvFs [l, r] e2) := (rfl)
@[simp] theorem evT_eq (x : E) : evT C x e = (ev C x e).bnd fun r e1 => tru1 (truR r e1) e1 := (rfl)
/-! ### statements -/
@[simp] theorem ex_ex (x : E) : ex C (.ex x) e = (ev C x e).bnd fun _ e1 => .ok .nx e1 := (rfl)
@[simp] theorem ex_asg (tg : Tg) (x : E) : ex C (.asg tg x) e = (ev C x e).bnd fun r e1 => optO (mv r e1) fun p => optO (asgT tg p.1 p.2) fun e3 => .ok .nx e3 := by
  simp only [ex]
  congr 1; funext r e1
  cases mv r e1 with
  | none => rfl
  | some p => simp only [optO_some]; cases asgT tg p.1 p.2 <;> rfl
@[simp] theorem ex_ret (x : E) : ex C (.ret x) e = (ev C x e).bnd fun r e1 => optO (outT r e1) fun p => .ok (.rt p.1) p.2 := by
  simp only [ex]
  congr 1; funext r e1
  cases outT r e1 <;> rfl
@[simp] theorem ex_retN : ex C .retN e = .ok (.rt (.fz .non)) e := (rfl)
@[simp] theorem ex_ite (c : E) (a b : Ss) : ex C (.ite c a b) e = (evT C c e).bnd fun k e1 => if k then exs C a e1 else exs C b e1 := (rfl)
@[simp] theorem ex_for (tg : Tg) (it : It) (b : Ss) : ex C (.forS tg it b) e = (evi C it e).bnd fun o e1 => forEnd o.2 (forL (fbody (fun e3 => exs C b e3) tg) o.1 e1) := (rfl)
@[simp] theorem ex_while (c : E) (b : Ss) : ex C (.whileS c b) e = whileL (fun e1 => evT C c e1) (fun e1 => exs C b e1) C.wf e := (rfl)
@[simp] theorem ex_brk : ex C .brk e = .ok .bk e := (rfl)
@[simp] theorem ex_cnt : ex C .cnt e = .ok .ct e := (rfl)
@[simp] theorem ex_pass : ex C .pass e = .ok .nx e := (rfl)
@[simp] theorem ex_bad : ex C .bad e = .bad := (rfl)
/-- a store at a place of a list -/
def setO (o : Option D) (p : Option (T × Env)) (ro : R) : Out Fl := match o, p, ro with
    | some (.int n), some (t, e4), .p j ks => (match e4[j]? with
      | some (.is u) => (match getP u ks with
        | some (.own ts) => (match ixN ts.length n with
          | some k => (match setP u ks (.own (ts.set k t)) with
            | some u' => .ok .nx (e4.set j (.is u'))
            | none => .bad)
          | none => .bad)
        | _ => .bad)
      | _ => .bad)
    | _, _, _ => .bad
@[simp] theorem setO_i (n : Int) (p : T × Env) (j : Nat) : setO (some (.int n)) (some p) (.p j []) = isS p.2[j]? fun u => ownK u fun ts => optO (ixN ts.length n) fun k => .ok .nx (p.2.set j (.is (.own (ts.set k p.1)))) := by
  simp only [setO]
  cases p.2[j]? with
  | none => rfl
  | some s =>
    cases s with
    | is u =>
      simp only [isS_i, getP_nil]
      cases u with
      | own ts =>
        simp only [ownK_o, setP_nil]
        cases ixN ts.length n <;> rfl
      | _ => rfl
    | _ => rfl
@[simp] theorem ex_sset (o i x : E) : ex C (.sset o i x) e = (ev C x e).stl.bnd fun r e1 => (ev C o e1).bnd fun ro e2 => if !(okL ro e2 && isL ro e2) then .bad else ((ev C i (lockR ro e2).2).ul (lockR ro e2).1).bnd fun ri e3 => setO (rd e3 ri) (mv r e3) ro := (rfl)
@[simp] theorem exs_nil : exs C .nil e = .ok .nx e := (rfl)
/-- one statement, then the others -/
def seqO (o : Out Fl) (k : Env → Out Fl) : Out Fl := match o with
    | .ok .nx e1 => k e1
    | .ok fl e1 => .ok fl e1
    | .exc c fs e1 => .exc c fs e1
    | .bad => .bad
@[simp] theorem exs_cons (s : S) (r : Ss) : exs C (.cons s r) e = seqO (ex C s e) fun e1 => exs C r e1 := (rfl)
@[simp] theorem seqO_nx (k : Env → Out Fl) : seqO (.ok .nx e) k = k e := (rfl)
@[simp] theorem seqO_rt (t : T) (k : Env → Out Fl) : seqO (.ok (.rt t) e) k = .ok (.rt t) e := (rfl)
@[simp] theorem seqO_bk (k : Env → Out Fl) : seqO (.ok .bk e) k = .ok .bk e := (rfl)
@[simp] theorem seqO_ct (k : Env → Out Fl) : seqO (.ok .ct e) k = .ok .ct e := (rfl)
@[simp] theorem seqO_exc (c : Nat) (fs : List D) (k : Env → Out Fl) : seqO (.exc c fs e) k = .exc c fs e := (rfl)
@[simp] theorem seqO_bad (k : Env → Out Fl) : seqO .bad k = .bad := (rfl)
end
/-- how a def ends -/
def endF (mu : Nat) : Out Fl → Option Res
  | .ok .nx e => (match lastM mu e with | some m => some (.ret (.fz .non) m) | none => none)
  | .ok (.rt t) e => (match lastM mu e with | some m => some (.ret t m) | none => none)
  | .exc c fs e => (match lastM mu e with | some m => some (.exc c fs m) | none => none)
  | _ => none
theorem runF_eq (C : Cf) (n mu : Nat) (b : Ss) (ts : List T) : runF C n mu b ts = endF mu (exs C b (startE n ts)) := by
  unfold runF
  cases exs C b (startE n ts) with
  | ok fl e => cases fl <;> rfl
  | exc c fs e => rfl
  | bad => rfl
@[simp] theorem endF_nx0 (e : Env) : endF 0 (.ok .nx e) = some (.ret (.fz .non) []) := (rfl)
@[simp] theorem endF_rt0 (t : T) (e : Env) : endF 0 (.ok (.rt t) e) = some (.ret t []) := (rfl)
@[simp] theorem endF_exc0 (c : Nat) (fs : List D) (e : Env) : endF 0 (.exc c fs e) = some (.exc c fs []) := (rfl)
@[simp] theorem lastM_0 (e : Env) : lastM 0 e = some [] := (rfl)
@[simp] theorem lastM_1 (e : Env) : lastM 1 e = optP (slotT e 0) fun t => some [t] := by
  simp only [lastM]
  cases slotT e 0 <;> rfl
@[simp] theorem endF_rt1 (t : T) (e : Env) : endF 1 (.ok (.rt t) e) = optP (lastM 1 e) fun m => some (.ret t m) := by
  simp only [endF]
  cases lastM 1 e <;> rfl
@[simp] theorem endF_nx1 (e : Env) : endF 1 (.ok .nx e) = optP (lastM 1 e) fun m => some (.ret (.fz .non) m) := by
  simp only [endF]
  cases lastM 1 e <;> rfl
/-! ### forms on data -/
@[simp] theorem cR_eq (o : CmpOp) (l r : R) (e : Env) : cmpR o l r e = optO (rd e l) fun a => optO (rd e r) fun b => optO (cmpD o a b) fun k => .ok k e := by
  simp only [cmpR]
  cases rd e l with
  | none => rfl
  | some a =>
    cases rd e r with
    | none => rfl
    | some b => simp only [optO_some]; cases cmpD o a b <;> rfl
@[simp] theorem bR_eq (b : Bi) (rs : List R) (e : Env) : biR b rs e = optO (rds e rs) fun ds => optO (biD b ds) fun t => if t.scal then .ok (.t t) e else optO (kidsRs rs e) fun e' => .ok (.t t) e' := by
  simp only [biR]
  cases rds e rs with
  | none => rfl
  | some ds =>
    simp only [optO_some]
    cases biD b ds with
    | none => rfl
    | some t => simp only [optO_some]; cases kidsRs rs e <;> rfl
@[simp] theorem oR_eq (o : Operator) (l r : R) (e : Env) : binR o l r e = optO (rd e l) fun a => optO (rd e r) fun b => optO (binD o a b) fun t => if t.scal then .ok (.t t) e else optO (kidsRs [l, r] e) fun e' => .ok (.t t) e' := by
  simp only [binR]
  cases rd e l with
  | none => rfl
  | some a =>
    cases rd e r with
    | none => rfl
    | some b =>
      simp only [optO_some]
      cases binD o a b with
      | none => rfl
      | some t => simp only [optO_some]; cases kidsRs [l, r] e <;> rfl
@[simp] theorem truR_eq (r : R) (e : Env) : truR r e = optP (rd e r) truD := by
  simp only [truR]
  cases rd e r <;> rfl
@[simp] theorem truD_bl (b : Bool) : truD (.bl b) = some b := (rfl)
@[simp] theorem truD_non : truD .non = some false := (rfl)
@[simp] theorem truD_int (i : Int) : truD (.int i) = some (i != 0) := (rfl)
@[simp] theorem truD_lst (ds : List D) : truD (.lst ds) = some (!ds.isEmpty) := (rfl)
@[simp] theorem truD_tup (ds : List D) : truD (.tup ds) = some (!ds.isEmpty) := (rfl)
@[simp] theorem ltI (i j : Int) : cmpD .Lt (.int i) (.int j) = some (decide (i < j)) := (rfl)
@[simp] theorem leI (i j : Int) : cmpD .LtE (.int i) (.int j) = some (decide (i ≤ j)) := (rfl)
@[simp] theorem gtI (i j : Int) : cmpD .Gt (.int i) (.int j) = some (decide (j < i)) := (rfl)
@[simp] theorem geI (i j : Int) : cmpD .GtE (.int i) (.int j) = some (decide (j ≤ i)) := (rfl)
@[simp] theorem eqI (i j : Int) : cmpD .Eq (.int i) (.int j) = some (decide (i = j)) := by
  show some (D.eq (.int i) (.int j)) = _
  simp only [D.eq]
  by_cases h : i = j <;> simp [h]
@[simp] theorem neI (i j : Int) : cmpD .NotEq (.int i) (.int j) = some (!decide (i = j)) := by
  show some (!D.eq (.int i) (.int j)) = _
  simp only [D.eq]
  by_cases h : i = j <;> simp [h]
@[simp] theorem addI (i j : Int) : binD .Add (.int i) (.int j) = some (.fz (.int (i + j))) := (rfl)
@[simp] theorem subI (i j : Int) : binD .Sub (.int i) (.int j) = some (.fz (.int (i - j))) := (rfl)
theorem modI {i j : Int} (h : 0 < j) : binD .Mod (.int i) (.int j) = some (.fz (.int (i % j))) := by simp [binD, h]
theorem divI {i j : Int} (h : 0 < j) (h2 : j < 1073741824) : binD .FloorDiv (.int i) (.int j) = some (.fz (.int (i / j))) := by simp [binD, h, h2]
@[simp] theorem lenT (ds : List D) : biD .len [.tup ds] = some (.fz (.int ds.length)) := (rfl)
@[simp] theorem lenL (ds : List D) : biD .len [.lst ds] = some (.fz (.int ds.length)) := (rfl)
@[simp] theorem lenR (ds : List D) : biD .len [.rol ds] = some (.fz (.int ds.length)) := (rfl)
@[simp] theorem minI (i j : Int) : biD .min [.int i, .int j] = some (.fz (.int (min i j))) := by
  show some (T.fz (.int (if j < i then j else i))) = _
  congr 3
  split <;> omega
@[simp] theorem maxI (i j : Int) : biD .max [.int i, .int j] = some (.fz (.int (max i j))) := by
  show some (T.fz (.int (if j > i then j else i))) = _
  congr 3
  split <;> omega
@[simp] theorem bls_map {α : Type} (p : α → Bool) : ∀ (xs : List α), bls (xs.map fun x => .bl (p x)) = some (xs.map p)
  | [] => rfl
  | x :: xs => by simp [bls, bls_map p xs]
@[simp] theorem allB {α : Type} (p : α → Bool) (xs : List α) : biD .all [.lst (xs.map fun x => .bl (p x))] = some (.fz (.bl (xs.all p))) := by
  show (match bls _ with | some bs => some (T.fz (.bl (bs.all id))) | none => none) = _
  rw [bls_map]; simp [List.all_map]
@[simp] theorem anyB {α : Type} (p : α → Bool) (xs : List α) : biD .any [.lst (xs.map fun x => .bl (p x))] = some (.fz (.bl (xs.any p))) := by
  show (match bls _ with | some bs => some (T.fz (.bl (bs.any id))) | none => none) = _
  rw [bls_map]; simp [List.any_map]
@[simp] theorem tupleL (ds : List D) : biD .tuple [.lst ds] = some (.fz (.tup ds)) := (rfl)
@[simp] theorem tupleT (ds : List D) : biD .tuple [.tup ds] = some (.fz (.tup ds)) := (rfl)
@[simp] theorem listL (ds : List D) : biD .list [.lst ds] = some (ol ds) := (rfl)
@[simp] theorem listT (ds : List D) : biD .list [.tup ds] = some (ol ds) := (rfl)
@[simp] theorem intI (i : Int) : biD .int [.int i] = some (.fz (.int i)) := (rfl)
@[simp] theorem absI (i : Int) : biD .abs [.int i] = some (.fz (.int (if i < 0 then -i else i))) := (rfl)
/-! ### calls -/
def call0 (f : List T → Option Res) (rs : List R) (e : Env) : Out R := match rds e rs with
    | none => .bad
    | some ds => (match f (ds.map .fz) with
      | none => .bad
      | some (.ret r _) => if r.scal then .ok (.t r) e else (match mvFs rs e with
        | some (_, e') => .ok (.t r) e'
        | none => .bad)
      | some (.exc c fs _) => (match mvFs rs e with
        | some (_, e') => .exc c fs e'
        | none => .bad))
theorem callF_0 {fn : Fn} {rs : List R} {e : Env} (h : fn.mu = 0) : callF fn rs e = call0 fn.f rs e := by
  unfold callF
  rw [h]
  rfl
@[simp] theorem call0_eq (f : List T → Option Res) (rs : List R) (e : Env) : call0 f rs e = optO (rds e rs) fun ds => resO (f (ds.map .fz)) (fun r _ => if r.scal then .ok (.t r) e else optO (mvFs rs e) fun p => .ok (.t r) p.2) (fun c fs _ => optO (mvFs rs e) fun p => .exc c fs p.2) := by
  simp only [call0]
  cases rds e rs with
  | none => rfl
  | some ds =>
    simp only [optO_some]
    cases f (ds.map .fz) with
    | none => rfl
    | some r => cases r <;> simp only [resO_r, resO_x] <;> cases mvFs rs e <;> rfl
def call1 (f : List T → Option Res) (i : Nat) (rest : List R) (e : Env) : Out R := match mvFs rest e with
      | none => .bad
      | some (ds, e1) => (match e1[i]? with
        | some (.is t) => (match f (t :: ds.map .fz) with
          | some (.ret r [t']) => .ok (.t r) (e1.set i (.is t'))
          | some (.exc c fs [t']) => .exc c fs (e1.set i (.is t'))
          | _ => .bad)
        | _ => .bad)
theorem callF_1 {fn : Fn} {i : Nat} {rest : List R} {e : Env} (h : fn.mu = 1) : callF fn (.p i [] :: rest) e = call1 fn.f i rest e := by
  unfold callF
  rw [h]
  rfl
@[simp] theorem call1_eq (f : List T → Option Res) (i : Nat) (rest : List R) (e : Env) : call1 f i rest e = optO (mvFs rest e) fun p => isS p.2[i]? fun t => resO (f (t :: p.1.map .fz)) (fun r m => oneK m fun t' => .ok (.t r) (p.2.set i (.is t'))) (fun c fs m => oneK m fun t' => .exc c fs (p.2.set i (.is t'))) := by
  simp only [call1]
  cases mvFs rest e with
  | none => rfl
  | some p =>
    simp only [optO_some]
    cases p.2[i]? with
    | none => rfl
    | some s =>
      cases s with
      | un => rfl
      | lk _ => rfl
      | is t =>
        simp only [isS_i]
        cases f (t :: p.1.map .fz) with
        | none => rfl
        | some r =>
          cases r with
          | ret r m => simp only [resO_r]; rcases m with _ | ⟨a, _ | ⟨b, m⟩⟩ <;> rfl
          | exc c fs m => simp only [resO_x]; rcases m with _ | ⟨a, _ | ⟨b, m⟩⟩ <;> rfl
@[simp] theorem cf_ft (gs : List D) (l : List Fn) (n i : Nat) : (cf gs l n).ft i = l[i]? := (rfl)
@[simp] theorem cf_gt (gs : List D) (l : List Fn) (n i : Nat) : (cf gs l n).gt i = gs[i]? := (rfl)
@[simp] theorem cf_wf (gs : List D) (l : List Fn) (n : Nat) : (cf gs l n).wf = n := (rfl)
theorem mkFn_f (gs : List D) (l : List Fn) (n mu : Nat) (b : Ss) (ts : List T) : (mkFn gs l n mu b).f ts = endF mu (exs (cf gs l) b (startE n ts)) := runF_eq _ _ _ _ _
/-! ### targets, what goes out, what is walked -/
/-- a slot that may be stored to -/
def jk : Option T → Sl
  | none => .un
  | some t => .is t
@[simp] theorem jk_some (t : T) : jk (some t) = .is t := (rfl)
@[simp] theorem jk_none : jk none = .un := (rfl)
def stS (s : Option Sl) (x : Option Env) : Option Env := match s with
    | some (.lk _) => none
    | some _ => x
    | none => none
@[simp] theorem stS_is (t : T) (x : Option Env) : stS (some (.is t)) x = x := (rfl)
@[simp] theorem stS_un (x : Option Env) : stS (some .un) x = x := (rfl)
@[simp] theorem stS_jk (o : Option T) (x : Option Env) : stS (some (jk o)) x = x := by cases o <;> rfl
@[simp] theorem asg_n (i : Nat) (t : T) (e : Env) : asgT (.n i) t e = stS e[i]? (some (e.set i (.is t))) := by
  simp only [asgT]
  cases e[i]? with
  | none => rfl
  | some s => cases s <;> rfl
@[simp] theorem asg_t2f (a b : Tg) (x y : D) (e : Env) : asgT (.t2 a b) (.fz (.tup [x, y])) e = optP (asgT a (.fz x) e) fun e1 => asgT b (.fz y) e1 := by
  simp only [asgT]
  cases asgT a (.fz x) e <;> rfl
@[simp] theorem asg_t2l (a b : Tg) (x y : D) (e : Env) : asgT (.t2 a b) (.fz (.lst [x, y])) e = optP (asgT a (.fz x) e) fun e1 => asgT b (.fz y) e1 := by
  simp only [asgT]
  cases asgT a (.fz x) e <;> rfl
@[simp] theorem asg_t2t (a b : Tg) (x y : T) (e : Env) : asgT (.t2 a b) (.tup [x, y]) e = optP (asgT a x e) fun e1 => asgT b y e1 := by
  simp only [asgT]
  cases asgT a x e <;> rfl
@[simp] theorem asg_t3f (a b c : Tg) (x y z : D) (e : Env) : asgT (.t3 a b c) (.fz (.tup [x, y, z])) e = optP (asgT a (.fz x) e) fun e1 => optP (asgT b (.fz y) e1) fun e2 => asgT c (.fz z) e2 := by
  simp only [asgT]
  cases asgT a (.fz x) e with
  | none => rfl
  | some e1 => simp only [optP_some]; cases asgT b (.fz y) e1 <;> rfl
@[simp] theorem asg_t3t (a b c : Tg) (x y z : T) (e : Env) : asgT (.t3 a b c) (.tup [x, y, z]) e = optP (asgT a x e) fun e1 => optP (asgT b y e1) fun e2 => asgT c z e2 := by
  simp only [asgT]
  cases asgT a x e with
  | none => rfl
  | some e1 => simp only [optP_some]; cases asgT b y e1 <;> rfl
@[simp] theorem mkTup_fo (a : D) (b : List T) : mkTup [.fz a, .own b] = .tup [.fz a, .own b] := (rfl)
@[simp] theorem mkTup_of (a : List T) (b : D) : mkTup [.own a, .fz b] = .tup [.own a, .fz b] := (rfl)
@[simp] theorem mkTup_oo (a b : List T) : mkTup [.own a, .own b] = .tup [.own a, .own b] := (rfl)
@[simp] theorem mkTup_ffo (a b : D) (c : List T) : mkTup [.fz a, .fz b, .own c] = .tup [.fz a, .fz b, .own c] := (rfl)
@[simp] theorem mkTup_foo (a : D) (b c : List T) : mkTup [.fz a, .own b, .own c] = .tup [.fz a, .own b, .own c] := (rfl)
@[simp] theorem outT_t (x : T) (e : Env) : outT (.t x) e = some (x, e) := (rfl)
@[simp] theorem outT_p (i : Nat) (e : Env) : outT (.p i []) e = isP e[i]? (fun t => some (t, e.set i .un)) fun _ => none := by
  simp only [outT]
  cases e[i]? with
  | none => rfl
  | some s => cases s <;> rfl
@[simp] theorem opened_t (x : T) (e : Env) : opened (.t x) e = optP (itemsD x.er) fun ds => some ((ds, []), e) := by
  simp only [opened]
  cases itemsD x.er <;> rfl
theorem opened_p {i : Nat} {ts : List T} {e : Env} (h : e[i]? = some (.is (.own ts))) : opened (.p i []) e = some ((ers ts, [(i, .own ((ers ts).map .fz))]), e.set i (.lk (.own ((ers ts).map .fz)))) := by
  simp only [opened, h]
  rfl
theorem opened_l {i : Nat} {ts : List T} {e : Env} (h : e[i]? = some (.lk (.own ts))) : opened (.p i []) e = if ts.all T.isFz then some ((ers ts, []), e) else none := by
  simp only [opened, h]
@[simp] theorem items_l (ds : List D) : itemsD (.lst ds) = some ds := (rfl)
@[simp] theorem items_t (ds : List D) : itemsD (.tup ds) = some ds := (rfl)
@[simp] theorem forEnd_nx (ls : List (Nat × T)) (e : Env) : forEnd ls (.ok .nx e) = .ok .nx (unlock ls e) := (rfl)
@[simp] theorem forEnd_rt (ls : List (Nat × T)) (t : T) (e : Env) : forEnd ls (.ok (.rt t) e) = .ok (.rt t) e := (rfl)
@[simp] theorem fbody_eq (g : Env → Out Fl) (tg : Tg) (d : D) (e : Env) : fbody g tg d e = optO (asgT tg (.fz d) e) fun e3 => g e3 := by
  simp only [fbody]
  cases asgT tg (.fz d) e <;> rfl
@[simp] theorem okL_t (x : T) (e : Env) : okL (.t x) e = true := (rfl)
@[simp] theorem okL_p (i : Nat) (e : Env) : okL (.p i []) e = true := (rfl)
@[simp] theorem isL_eq (r : R) (e : Env) : isL r e = isLst (rd e r) := (rfl)
@[simp] theorem lockR_t (x : T) (e : Env) : lockR (.t x) e = ([], e) := (rfl)
@[simp] theorem lockR_p (i : Nat) (e : Env) : lockR (.p i []) e = ([], e) := (rfl)
@[simp] theorem rR_some (r : R) (e : Env) : rR (some r) e = .ok r e := (rfl)
@[simp] theorem wipe_nil (e : Env) : wipeE [] e = e := (rfl)
@[simp] theorem wipe_cons (i : Nat) (is : List Nat) (e : Env) : wipeE (i :: is) e = (wipeE is e).set i .un := (rfl)
@[simp] theorem back_nil (e0 e : Env) : backE e0 [] e = e := (rfl)
@[simp] theorem back_cons (e0 : Env) (i : Nat) (is : List Nat) (e : Env) : backE e0 (i :: is) e = backE e0 is (e.set i (e0.getD i .un)) := (rfl)
@[simp] theorem ownOk_nil (e : Env) : ownOk [] e = true := (rfl)
@[simp] theorem ownOk_cons (i : Nat) (is : List Nat) (e : Env) : ownOk (i :: is) e = (freeS e[i]? && ownOk is e) := (rfl)
/-! ### subscripts -/
@[simp] theorem subR_fz (dd b : D) (e : Env) : subR (.t (.fz dd)) b e = optP (subD dd b) fun d => some (.t (.fz d)) := by
  simp only [subR]
  show (match subD dd b with | some d => some (R.t (.fz d)) | none => none) = _
  cases subD dd b <;> rfl
@[simp] theorem subD_l (ds : List D) (i : Int) : subD (.lst ds) (.int i) = ixD ds i := (rfl)
@[simp] theorem subD_r (ds : List D) (i : Int) : subD (.rol ds) (.int i) = ixD ds i := (rfl)
@[simp] theorem subD_t (ds : List D) (i : Int) : subD (.tup ds) (.int i) = ixD ds i := (rfl)
theorem ixN_in {n : Nat} {i : Int} (h1 : 0 ≤ i) (h2 : i < n) : ixN n i = some i.toNat := by simp [ixN, h1, h2]
theorem ixD_in {ds : List D} {i : Int} {d : D} (h1 : 0 ≤ i) (h : ds[i.toNat]? = some d) : ixD ds i = some d := by
  have h2 : i.toNat < ds.length := (List.getElem?_eq_some_iff.mp h).1
  unfold ixD
  rw [ixN_in h1 (by omega)]
  exact h
@[simp] theorem ix_0 (d : D) (ds : List D) : ixD (d :: ds) 0 = some d := ixD_in (Int.le_refl _) rfl
@[simp] theorem ix_1 (c d : D) (ds : List D) : ixD (c :: d :: ds) 1 = some d := ixD_in (by decide) rfl
@[simp] theorem ix_2 (b c d : D) (ds : List D) : ixD (b :: c :: d :: ds) 2 = some d := ixD_in (by decide) rfl
@[simp] theorem ix_3 (a b c d : D) (ds : List D) : ixD (a :: b :: c :: d :: ds) 3 = some d := ixD_in (by decide) rfl
theorem small_62 {i : Int} (h1 : -(2 ^ 62) ≤ i) (h2 : i < 2 ^ 62) : small62 i = true := by unfold small62; rw [Bool.and_eq_true]; exact ⟨decide_eq_true h1, decide_eq_true h2⟩
/-! ### texts of types -/
@[simp] theorem isi_int_int (i : Int) : biD .isi [(.int i), .ty "int"] = some (.fz (.bl true)) := (rfl)
@[simp] theorem isi_int_bool (i : Int) : biD .isi [(.int i), .ty "bool"] = some (.fz (.bl false)) := (rfl)
@[simp] theorem isi_int_str (i : Int) : biD .isi [(.int i), .ty "str"] = some (.fz (.bl false)) := (rfl)
@[simp] theorem isi_int_tuple (i : Int) : biD .isi [(.int i), .ty "tuple"] = some (.fz (.bl false)) := (rfl)
@[simp] theorem isi_int_list (i : Int) : biD .isi [(.int i), .ty "list"] = some (.fz (.bl false)) := (rfl)
@[simp] theorem isi_int_dict (i : Int) : biD .isi [(.int i), .ty "dict"] = some (.fz (.bl false)) := (rfl)
@[simp] theorem isi_int_lt (i : Int) : biD .isi [(.int i), .tup [.ty "list", .ty "tuple"]] = some (.fz (.bl false)) := (rfl)
@[simp] theorem isi_int_tl (i : Int) : biD .isi [(.int i), .tup [.ty "tuple", .ty "list"]] = some (.fz (.bl false)) := (rfl)
@[simp] theorem isi_bl_int (b : Bool) : biD .isi [(.bl b), .ty "int"] = some (.fz (.bl true)) := (rfl)
@[simp] theorem isi_bl_bool (b : Bool) : biD .isi [(.bl b), .ty "bool"] = some (.fz (.bl true)) := (rfl)
@[simp] theorem isi_bl_str (b : Bool) : biD .isi [(.bl b), .ty "str"] = some (.fz (.bl false)) := (rfl)
@[simp] theorem isi_bl_tuple (b : Bool) : biD .isi [(.bl b), .ty "tuple"] = some (.fz (.bl false)) := (rfl)
@[simp] theorem isi_bl_list (b : Bool) : biD .isi [(.bl b), .ty "list"] = some (.fz (.bl false)) := (rfl)
@[simp] theorem isi_bl_dict (b : Bool) : biD .isi [(.bl b), .ty "dict"] = some (.fz (.bl false)) := (rfl)
@[simp] theorem isi_bl_lt (b : Bool) : biD .isi [(.bl b), .tup [.ty "list", .ty "tuple"]] = some (.fz (.bl false)) := (rfl)
@[simp] theorem isi_bl_tl (b : Bool) : biD .isi [(.bl b), .tup [.ty "tuple", .ty "list"]] = some (.fz (.bl false)) := (rfl)
@[simp] theorem isi_str_int (x : Str) : biD .isi [(.str x), .ty "int"] = some (.fz (.bl false)) := (rfl)
@[simp] theorem isi_str_bool (x : Str) : biD .isi [(.str x), .ty "bool"] = some (.fz (.bl false)) := (rfl)
@[simp] theorem isi_str_str (x : Str) : biD .isi [(.str x), .ty "str"] = some (.fz (.bl true)) := (rfl)
@[simp] theorem isi_str_tuple (x : Str) : biD .isi [(.str x), .ty "tuple"] = some (.fz (.bl false)) := (rfl)
@[simp] theorem isi_str_list (x : Str) : biD .isi [(.str x), .ty "list"] = some (.fz (.bl false)) := (rfl)
@[simp] theorem isi_str_dict (x : Str) : biD .isi [(.str x), .ty "dict"] = some (.fz (.bl false)) := (rfl)
@[simp] theorem isi_str_lt (x : Str) : biD .isi [(.str x), .tup [.ty "list", .ty "tuple"]] = some (.fz (.bl false)) := (rfl)
@[simp] theorem isi_str_tl (x : Str) : biD .isi [(.str x), .tup [.ty "tuple", .ty "list"]] = some (.fz (.bl false)) := (rfl)
@[simp] theorem isi_non_int  : biD .isi [.non, .ty "int"] = some (.fz (.bl false)) := (rfl)
@[simp] theorem isi_non_bool  : biD .isi [.non, .ty "bool"] = some (.fz (.bl false)) := (rfl)
@[simp] theorem isi_non_str  : biD .isi [.non, .ty "str"] = some (.fz (.bl false)) := (rfl)
@[simp] theorem isi_non_tuple  : biD .isi [.non, .ty "tuple"] = some (.fz (.bl false)) := (rfl)
@[simp] theorem isi_non_list  : biD .isi [.non, .ty "list"] = some (.fz (.bl false)) := (rfl)
@[simp] theorem isi_non_dict  : biD .isi [.non, .ty "dict"] = some (.fz (.bl false)) := (rfl)
@[simp] theorem isi_non_lt  : biD .isi [.non, .tup [.ty "list", .ty "tuple"]] = some (.fz (.bl false)) := (rfl)
@[simp] theorem isi_non_tl  : biD .isi [.non, .tup [.ty "tuple", .ty "list"]] = some (.fz (.bl false)) := (rfl)
@[simp] theorem isi_tup_int (ds : List D) : biD .isi [(.tup ds), .ty "int"] = some (.fz (.bl false)) := (rfl)
@[simp] theorem isi_tup_bool (ds : List D) : biD .isi [(.tup ds), .ty "bool"] = some (.fz (.bl false)) := (rfl)
@[simp] theorem isi_tup_str (ds : List D) : biD .isi [(.tup ds), .ty "str"] = some (.fz (.bl false)) := (rfl)
@[simp] theorem isi_tup_tuple (ds : List D) : biD .isi [(.tup ds), .ty "tuple"] = some (.fz (.bl true)) := (rfl)
@[simp] theorem isi_tup_list (ds : List D) : biD .isi [(.tup ds), .ty "list"] = some (.fz (.bl false)) := (rfl)
@[simp] theorem isi_tup_dict (ds : List D) : biD .isi [(.tup ds), .ty "dict"] = some (.fz (.bl false)) := (rfl)
@[simp] theorem isi_tup_lt (ds : List D) : biD .isi [(.tup ds), .tup [.ty "list", .ty "tuple"]] = some (.fz (.bl true)) := (rfl)
@[simp] theorem isi_tup_tl (ds : List D) : biD .isi [(.tup ds), .tup [.ty "tuple", .ty "list"]] = some (.fz (.bl true)) := (rfl)
@[simp] theorem isi_lst_int (ds : List D) : biD .isi [(.lst ds), .ty "int"] = some (.fz (.bl false)) := (rfl)
@[simp] theorem isi_lst_bool (ds : List D) : biD .isi [(.lst ds), .ty "bool"] = some (.fz (.bl false)) := (rfl)
@[simp] theorem isi_lst_str (ds : List D) : biD .isi [(.lst ds), .ty "str"] = some (.fz (.bl false)) := (rfl)
@[simp] theorem isi_lst_tuple (ds : List D) : biD .isi [(.lst ds), .ty "tuple"] = some (.fz (.bl false)) := (rfl)
@[simp] theorem isi_lst_list (ds : List D) : biD .isi [(.lst ds), .ty "list"] = some (.fz (.bl true)) := (rfl)
@[simp] theorem isi_lst_dict (ds : List D) : biD .isi [(.lst ds), .ty "dict"] = some (.fz (.bl false)) := (rfl)
@[simp] theorem isi_lst_lt (ds : List D) : biD .isi [(.lst ds), .tup [.ty "list", .ty "tuple"]] = some (.fz (.bl true)) := (rfl)
@[simp] theorem isi_lst_tl (ds : List D) : biD .isi [(.lst ds), .tup [.ty "tuple", .ty "list"]] = some (.fz (.bl true)) := (rfl)
/-! ### loops -/
theorem compL_enc {α : Type} {enc : α → D} {f : D → Env → Out (List T)} {g : α → List T} {e : Env} : ∀ {xs : List α}, (∀ x ∈ xs, f (enc x) e = .ok (g x) e) → (xs.flatMap g).length ≤ sizeL → compL f (xs.map enc) e = .ok (xs.flatMap g) e
  | [], _, _ => rfl
  | x :: xs, h, hl => by
    have h0 := h x List.mem_cons_self
    rw [List.flatMap_cons] at hl ⊢
    have hl' := hl
    rw [List.length_append] at hl'
    have ih := compL_enc (xs := xs) (fun y hy => h y (List.mem_cons_of_mem _ hy)) (by omega)
    rw [List.map_cons, compL, h0, nox_ok, bnd_ok, ih, bnd_ok, if_pos hl]
theorem compL_map {α : Type} {enc : α → D} {f : D → Env → Out (List T)} {u : α → T} {e : Env} {xs : List α} (h : ∀ x ∈ xs, f (enc x) e = .ok [u x] e) (hl : xs.length ≤ sizeL) : compL f (xs.map enc) e = .ok (xs.map u) e := by
  have e1 : xs.flatMap (fun x => [u x]) = xs.map u := by
    clear h hl
    induction xs with
    | nil => rfl
    | cons x xs ih => rw [List.flatMap_cons, ih]; rfl
  rw [← e1]
  exact compL_enc h (by rw [e1, List.length_map]; exact hl)
theorem compL_filter {α : Type} {enc : α → D} {f : D → Env → Out (List T)} {u : α → T} {p : α → Bool} {e : Env} {xs : List α} (h : ∀ x ∈ xs, f (enc x) e = .ok (if p x then [u x] else []) e) (hl : xs.length ≤ sizeL) : compL f (xs.map enc) e = .ok ((xs.filter p).map u) e := by
  have e1 : ∀ xs : List α, xs.flatMap (fun x => if p x then [u x] else []) = (xs.filter p).map u := fun xs => by
    induction xs with
    | nil => rfl
    | cons x xs ih => by_cases c : p x <;> simp [c, ih]
  rw [← e1]
  exact compL_enc h (by rw [e1, List.length_map]; exact Nat.le_trans (List.length_filter_le _ _) hl)
/-- a for that always goes on: the frame at each item -/
theorem forL_all {α : Type} {enc : α → D} {f : D → Env → Out Fl} (E : List α → Env) : ∀ (xs pre : List α), (∀ (pre' : List α) (x : α) (post : List α), pre ++ xs = pre' ++ x :: post → pre.length ≤ pre'.length → f (enc x) (E pre') = .ok .nx (E (pre' ++ [x]))) → forL f (xs.map enc) (E pre) = .ok .nx (E (pre ++ xs))
  | [], pre, _ => by simp [forL]
  | x :: xs, pre, h => by
    rw [List.map_cons, forL, h pre x xs rfl (Nat.le_refl _)]
    simp only
    rw [forL_all E xs (pre ++ [x]) fun pre' y post e hl => h pre' y post (by rw [← e]; simp) (by rw [List.length_append] at hl; omega)]
    simp
/-! ### sizes, branches -/
theorem sz_le {n : Nat} (h : n ≤ 1000) : n ≤ sizeL := Nat.le_trans h (by decide)
@[simp] theorem sz_0 : (0 ≤ sizeL) = True := eq_true (sz_le (by decide))
@[simp] theorem sz_1 : (1 ≤ sizeL) = True := eq_true (sz_le (by decide))
@[simp] theorem sz_2 : (2 ≤ sizeL) = True := eq_true (sz_le (by decide))
@[simp] theorem sz_3 : (3 ≤ sizeL) = True := eq_true (sz_le (by decide))
@[simp] theorem sz_4 : (4 ≤ sizeL) = True := eq_true (sz_le (by decide))
@[simp] theorem seqO_ite (b : Prop) [Decidable b] (x y : Out Fl) (k : Env → Out Fl) : seqO (if b then x else y) k = if b then seqO x k else seqO y k := by split <;> rfl
@[simp] theorem stl_ite (b : Prop) [Decidable b] (x y : Out R) : (if b then x else y).stl = if b then x.stl else y.stl := by split <;> rfl
@[simp] theorem endF_ite (mu : Nat) (b : Prop) [Decidable b] (x y : Out Fl) : endF mu (if b then x else y) = if b then endF mu x else endF mu y := by split <;> rfl
/-! ### pairs of whole numbers -/
abbrev Pr := Int × Int
def encP (p : Pr) : D := .tup [.int p.1, .int p.2]
def encI (i : Int) : D := .int i
@[simp] theorem encP_app (p : Pr) : encP p = .tup [.int p.1, .int p.2] := (rfl)
@[simp] theorem encI_app (i : Int) : encI i = .int i := (rfl)
@[simp] theorem eq_ii (i j : Int) : D.eq (.int i) (.int j) = decide (i = j) := by
  simp only [D.eq]
  by_cases h : i = j <;> simp [h]
@[simp] theorem eq_pp (a b c d : Int) : D.eq (.tup [.int a, .int b]) (.tup [.int c, .int d]) = (decide (a = c) && decide (b = d)) := by
  show (D.eq (.int a) (.int c) && (D.eq (.int b) (.int d) && true)) = _
  rw [eq_ii, eq_ii, Bool.and_true]
@[simp] theorem eq_ll (xs ys : List D) : D.eq (.lst xs) (.lst ys) = eqs xs ys := by simp [D.eq]
@[simp] theorem eq_tt (xs ys : List D) : D.eq (.tup xs) (.tup ys) = eqs xs ys := by simp [D.eq]
@[simp] theorem eqs_nn : eqs [] [] = true := (rfl)
@[simp] theorem eqs_nc (y : D) (ys : List D) : eqs [] (y :: ys) = false := (rfl)
@[simp] theorem eqs_cn (x : D) (xs : List D) : eqs (x :: xs) [] = false := (rfl)
@[simp] theorem eqs_cc (x y : D) (xs ys : List D) : eqs (x :: xs) (y :: ys) = (D.eq x y && eqs xs ys) := (rfl)
theorem eqs_pp : ∀ (f g : List Pr), eqs (f.map encP) (g.map encP) = decide (f = g)
  | [], [] => by simp
  | [], _ :: _ => by simp
  | _ :: _, [] => by simp
  | p :: f, q :: g => by
    have ih := eqs_pp f g
    simp only [List.map_cons, eqs_cc, ih, encP_app, eq_pp]
    by_cases h1 : p.1 = q.1 <;> by_cases h2 : p.2 = q.2 <;> simp [h1, h2, Prod.ext_iff]
theorem okE_int (k : Nat) (i : Int) : D.okE k (.int i) = true := by cases k <;> rfl
theorem okE_bl (k : Nat) (b : Bool) : D.okE k (.bl b) = true := by cases k <;> rfl
theorem okE_non (k : Nat) : D.okE k .non = true := by cases k <;> rfl
theorem okEs_nil (k : Nat) : okEs k [] = true := by cases k <;> rfl
theorem okEs_cons (k : Nat) (d : D) (ds : List D) : okEs k (d :: ds) = (D.okE k d && okEs k ds) := by cases k <;> rfl
theorem okE_tup (k : Nat) (ds : List D) : D.okE (k + 1) (.tup ds) = okEs k ds := (rfl)
theorem okE_lst (k : Nat) (ds : List D) : D.okE (k + 1) (.lst ds) = okEs k ds := (rfl)
theorem okE_p (k : Nat) (a b : Int) : D.okE (k + 1) (.tup [.int a, .int b]) = true := by simp [okE_tup, okEs_cons, okE_int, okEs_nil]
theorem okEs_map {α : Type} (k : Nat) (enc : α → D) : ∀ (xs : List α), (∀ x ∈ xs, D.okE k (enc x) = true) → okEs k (xs.map enc) = true
  | [], _ => okEs_nil k
  | x :: xs, h => by rw [List.map_cons, okEs_cons, h x List.mem_cons_self, okEs_map k enc xs fun y hy => h y (List.mem_cons_of_mem _ hy)]; rfl
theorem okEs_pp (k : Nat) (f : List Pr) : okEs (k + 1) (f.map encP) = true := okEs_map _ _ _ fun p _ => okE_p k p.1 p.2
theorem okEs_ii (k : Nat) (f : List Int) : okEs k (f.map .int) = true := okEs_map _ _ _ fun i _ => okE_int k i
@[simp] theorem inI2 (i a b : Int) : cmpD .In (.int i) (.tup [.int a, .int b]) = some (decide (a = i) || decide (b = i)) := by
  show inD (.int i) (.tup [.int a, .int b]) = _
  simp [inD, okE_int, okEs_cons, okEs_nil]
theorem any_pp (a b : Int) : ∀ (f : List Pr), (f.map encP).any (fun z => D.eq z (.tup [.int a, .int b])) = decide ((a, b) ∈ f)
  | [] => by simp
  | p :: f => by
    rw [List.map_cons, List.any_cons, any_pp a b f]
    simp only [encP_app, eq_pp]
    by_cases h1 : p.1 = a <;> by_cases h2 : p.2 = b <;> simp [h1, h2, Prod.ext_iff, eq_comm]
@[simp] theorem inP (a b : Int) (f : List Pr) : cmpD .In (.tup [.int a, .int b]) (.tup (f.map encP)) = some (decide ((a, b) ∈ f)) := by
  show inD (.tup [.int a, .int b]) (.tup (f.map encP)) = _
  simp only [inD, okE_p 49, okEs_pp 49, Bool.and_self, if_true, any_pp]
@[simp] theorem inPl (a b : Int) (f : List Pr) : cmpD .In (.tup [.int a, .int b]) (.lst (f.map encP)) = some (decide ((a, b) ∈ f)) := by
  show inD (.tup [.int a, .int b]) (.lst (f.map encP)) = _
  simp only [inD, okE_p 49, okEs_pp 49, Bool.and_self, if_true, any_pp]
/-- the order of pairs -/
def ltP (p q : Pr) : Bool := decide (p.1 < q.1) || (decide (p.1 = q.1) && decide (p.2 < q.2))
@[simp] theorem ltPP (a b c d : Int) : cmpD .Lt (.tup [.int a, .int b]) (.tup [.int c, .int d]) = some (ltP (a, b) (c, d)) := by
  show D.lt 4 (.tup [.int a, .int b]) (.tup [.int c, .int d]) = _
  simp only [D.lt, okEs_cons, okE_int, okEs_nil, Bool.and_self, Bool.true_and, ltAll, Option.isSome_some, Bool.or_true, if_true, lts, eq_ii, ltP]
  by_cases h1 : a = c <;> by_cases h2 : b = d <;> simp [h1, h2]
theorem neNil (ds : List D) (h : okEs 59 ds = true) : cmpD .NotEq (.lst ds) (.lst []) = some (!ds.isEmpty) := by
  show (if (D.lst ds).okE 60 && (D.lst []).okE 60 then some (!D.eq (.lst ds) (.lst [])) else none) = _
  rw [okE_lst, okE_lst, h, okEs_nil]
  cases ds <;> simp
theorem eqNil (ds : List D) (h : okEs 59 ds = true) : cmpD .Eq (.lst ds) (.lst []) = some ds.isEmpty := by
  show (if (D.lst ds).okE 60 && (D.lst []).okE 60 then some (D.eq (.lst ds) (.lst [])) else none) = _
  rw [okE_lst, okE_lst, h, okEs_nil]
  cases ds <;> simp
@[simp] theorem neNilP (f : List Pr) : cmpD .NotEq (.lst (f.map encP)) (.lst []) = some (!f.isEmpty) := by rw [neNil _ (okEs_pp 58 f)]; cases f <;> rfl
@[simp] theorem eqNilP (f : List Pr) : cmpD .Eq (.lst (f.map encP)) (.lst []) = some f.isEmpty := by rw [eqNil _ (okEs_pp 58 f)]; cases f <;> rfl
@[simp] theorem neNilI (f : List Int) : cmpD .NotEq (.lst (f.map .int)) (.lst []) = some (!f.isEmpty) := by rw [neNil _ (okEs_ii 59 f)]; cases f <;> rfl
@[simp] theorem eqNilI (f : List Int) : cmpD .Eq (.lst (f.map .int)) (.lst []) = some f.isEmpty := by rw [eqNil _ (okEs_ii 59 f)]; cases f <;> rfl
theorem eqLP (f g : List Pr) : cmpD .Eq (.lst (f.map encP)) (.lst (g.map encP)) = some (decide (f = g)) := by
  show (if (D.lst (f.map encP)).okE 60 && (D.lst (g.map encP)).okE 60 then some (D.eq (.lst (f.map encP)) (.lst (g.map encP))) else none) = _
  rw [okE_lst, okE_lst, okEs_pp 58, okEs_pp 58, eq_ll, eqs_pp]; rfl
theorem neLP (f g : List Pr) : cmpD .NotEq (.lst (f.map encP)) (.lst (g.map encP)) = some (!decide (f = g)) := by
  show (if (D.lst (f.map encP)).okE 60 && (D.lst (g.map encP)).okE 60 then some (!D.eq (.lst (f.map encP)) (.lst (g.map encP))) else none) = _
  rw [okE_lst, okE_lst, okEs_pp 58, okEs_pp 58, eq_ll, eqs_pp]; rfl
@[simp] theorem isNoneN : cmpD .Is .non .non = some true := (rfl)
@[simp] theorem isNoneT (ds : List D) : cmpD .Is (.tup ds) .non = some false := (rfl)
@[simp] theorem isNoneB (b : Bool) : cmpD .Is (.bl b) .non = some false := (rfl)
@[simp] theorem isNoneI (i : Int) : cmpD .Is (.int i) .non = some false := (rfl)
@[simp] theorem isNoneL (ds : List D) : cmpD .Is (.lst ds) .non = some false := (rfl)
@[simp] theorem isnNoneN : cmpD .IsNot .non .non = some false := (rfl)
@[simp] theorem isnNoneT (ds : List D) : cmpD .IsNot (.tup ds) .non = some true := (rfl)
@[simp] theorem isnNoneI (i : Int) : cmpD .IsNot (.int i) .non = some true := (rfl)
@[simp] theorem isnNoneL (ds : List D) : cmpD .IsNot (.lst ds) .non = some true := (rfl)
@[simp] theorem isBB (a b : Bool) : cmpD .Is (.bl a) (.bl b) = some (a == b) := (rfl)
@[simp] theorem isBI (i : Int) : cmpD .Eq (.bl true) (.bl true) = some true := (rfl)
theorem eqBB (a b : Bool) : cmpD .Eq (.bl a) (.bl b) = some (a == b) := by
  show some (D.eq (.bl a) (.bl b)) = _
  simp [D.eq]
/-! ### ranges -/
/-- the whole numbers from lo on below hi -/
def rng (lo hi : Int) : List Int := (List.range (hi - lo).toNat).map fun k => lo + (k : Nat)
@[simp] theorem rngL_eq (lo hi : Int) : rngL lo hi = (rng lo hi).map .int := by simp [rngL, rng]
theorem mem_rng {lo hi x : Int} : x ∈ rng lo hi ↔ lo ≤ x ∧ x < hi := by
  unfold rng
  rw [List.mem_map]
  constructor
  · rintro ⟨k, h1, rfl⟩
    rw [List.mem_range] at h1
    omega
  · rintro ⟨h1, h2⟩
    exact ⟨(x - lo).toNat, by rw [List.mem_range]; omega, by omega⟩
theorem rng_len (lo hi : Int) : (rng lo hi).length = (hi - lo).toNat := by simp [rng]
theorem rng_nil {lo hi : Int} (h : hi ≤ lo) : rng lo hi = [] := by
  unfold rng
  rw [show (hi - lo).toNat = 0 by omega]; rfl
theorem rng_cons {lo hi : Int} (h : lo < hi) : rng lo hi = lo :: rng (lo + 1) hi := by
  unfold rng
  obtain ⟨n, hn⟩ : ∃ n, (hi - lo).toNat = n + 1 := ⟨(hi - lo).toNat - 1, by omega⟩
  rw [hn, show (hi - (lo + 1)).toNat = n by omega, List.range_succ_eq_map, List.map_cons, List.map_map]
  congr 1
  · simp
  · refine List.map_congr_left fun k _ => ?_
    show lo + ((k + 1 : Nat) : Int) = lo + 1 + (k : Int)
    omega
theorem rng_nodup (lo hi : Int) : (rng lo hi).Nodup := by
  unfold rng
  refine List.Pairwise.map _ (fun a b h => ?_) (List.nodup_range)
  intro e
  exact h (by omega)
/-! ### comprehensions -/
@[simp] theorem compB_eq (C : Cf) (own : List Nat) (x : E) (tg : Tg) (ifs : Oe) (d : D) (e : Env) : compB C own x tg ifs d e = optO (asgT tg (.fz d) e) fun e3 => (evt C ifs e3).bnd fun k e4 => if k then (ev C x e4).bnd fun r e5 => optO (mv r e5) fun p => .ok [p.1] (wipeE own p.2) else .ok [] (wipeE own e4) := by
  simp only [compB]
  cases asgT tg (.fz d) e with
  | none => rfl
  | some e3 =>
    simp only [optO_some]
    congr 1; funext k e4
    split
    · congr 1; funext r e5
      cases mv r e5 <;> rfl
    · rfl
@[simp] theorem compB2_eq (C : Cf) (own : List Nat) (x : E) (tg : Tg) (ifs : Oe) (own1 : List Nat) (tg1 : Tg) (it1 : It) (ifs1 : Oe) (d : D) (e : Env) : compB2 C own x tg ifs own1 tg1 it1 ifs1 d e = optO (asgT tg (.fz d) e) fun e3 => (evt C ifs e3).bnd fun k e4 => if k then (evi C it1 e4).bnd fun o1 e5 => if ownOk own1 e5 then
            (compL (compB C own1 x tg1 ifs1) o1.1 (wipeE own1 e5)).bnd fun ts e11 => .ok ts (wipeE own (unlock o1.2 e11)) else .bad
          else .ok [] (wipeE own e4) := by
  simp only [compB2]
  cases asgT tg (.fz d) e <;> rfl
theorem flat_map {α β γ : Type} {g : α → List β} {h : α → β → γ} : ∀ (xs : List α), xs.flatMap (fun p => (g p).map (h p)) = (xs.flatMap fun p => (g p).map fun q => (p, q)).map fun z => h z.1 z.2
  | [] => rfl
  | x :: xs => by
    rw [List.flatMap_cons, List.flatMap_cons, List.map_append, flat_map xs, List.map_map]
    rfl
theorem flat_len {α β : Type} {g : α → List β} {k : Nat} : ∀ {xs : List α}, (∀ x ∈ xs, (g x).length ≤ k) → (xs.flatMap g).length ≤ xs.length * k
  | [], _ => by simp
  | x :: xs, h => by
    rw [List.flatMap_cons, List.length_append, List.length_cons, Nat.succ_mul]
    have h1 := h x List.mem_cons_self
    have h2 := flat_len (xs := xs) fun y hy => h y (List.mem_cons_of_mem _ hy)
    omega
theorem zipL_pp (f g : List Pr) : zipL (f.map encP) (g.map encP) = (f.zip g).map fun q => .tup [encP q.1, encP q.2] := by
  simp [zipL, List.zip_map, List.map_map]
theorem enumL_p (f : List Pr) : enumL (f.map encP) = f.zipIdx.map fun q => .tup [.int (q.2 : Nat), encP q.1] := by
  simp [enumL, List.zipIdx_map, List.map_map]
/-! ### slices -/
theorem cut_from {α : Type} (xs : List α) {k : Int} (h : 0 ≤ k) : cut xs (some k) none = xs.drop k.toNat := by
  have e : sIx xs.length 0 (some k) = min k.toNat xs.length := by
    show (if k < 0 then _ else _) = _
    rw [if_neg (by omega)]
  unfold cut
  rw [e]
  show (xs.drop (min k.toNat xs.length)).take (xs.length - min k.toNat xs.length) = _
  rw [List.take_of_length_le (by rw [List.length_drop]; omega)]
  by_cases c : k.toNat ≤ xs.length
  · rw [Nat.min_eq_left c]
  · rw [Nat.min_eq_right (by omega), List.drop_of_length_le (Nat.le_refl _), List.drop_of_length_le (by omega)]
theorem cut_to {α : Type} (xs : List α) {k : Int} (h : 0 ≤ k) : cut xs none (some k) = xs.take k.toNat := by
  have e : sIx xs.length xs.length (some k) = min k.toNat xs.length := by
    show (if k < 0 then _ else _) = _
    rw [if_neg (by omega)]
  unfold cut
  rw [e]
  show (xs.drop 0).take (min k.toNat xs.length - 0) = _
  rw [List.drop_zero, Nat.sub_zero]
  by_cases c : k.toNat ≤ xs.length
  · rw [Nat.min_eq_left c]
  · rw [Nat.min_eq_right (by omega), List.take_of_length_le (Nat.le_refl _), List.take_of_length_le (by omega)]
@[simp] theorem slcT (ds : List D) (lo hi : Option Int) : sliceD (.tup ds) lo hi = some (.fz (.tup (cut ds lo hi))) := (rfl)
@[simp] theorem slcL (ds : List D) (lo hi : Option Int) : sliceD (.lst ds) lo hi = some (ol (cut ds lo hi)) := (rfl)
@[simp] theorem slcR (ds : List D) (lo hi : Option Int) : sliceD (.rol ds) lo hi = some (ol (cut ds lo hi)) := (rfl)
@[simp] theorem revT (ds : List D) : revD (.tup ds) = some (.fz (.tup ds.reverse)) := (rfl)
@[simp] theorem revL (ds : List D) : revD (.lst ds) = some (ol ds.reverse) := (rfl)
/-! ### methods -/
def mtK (m : Mt) (t : T) (ks : List Nat) (as : List T) (k : T → T → Out R) : Out R := optO (getP t ks) fun u => ownK u fun ts => optO (mtT m ts as) fun q => optO (setP t ks (.own q.2)) fun t' => k q.1 t'
@[simp] theorem mtR_p (m : Mt) (i : Nat) (ks : List Nat) (rs : List R) (e : Env) : mtR m (.p i ks) rs e = optO (mvs rs e) fun p => isS p.2[i]? fun t => mtK m t ks p.1 fun r t' => .ok (.t r) (p.2.set i (.is t')) := by
  simp only [mtR, mtK]
  cases mvs rs e with
  | none => rfl
  | some p =>
    simp only [optO_some]
    cases p.2[i]? with
    | none => rfl
    | some s =>
      cases s with
      | un => rfl
      | lk _ => rfl
      | is t =>
        simp only [isS_i]
        cases getP t ks with
        | none => rfl
        | some u =>
          simp only [optO_some]
          cases u with
          | own ts =>
            simp only [ownK_o]
            cases mtT m ts p.1 with
            | none => rfl
            | some q => simp only [optO_some]; cases setP t ks (.own q.2) <;> rfl
          | _ => rfl
theorem mt_append {ts : List T} {x : T} (h : ts.length < sizeL) : mtT .append ts [x] = some (.fz .non, ts ++ [x]) := by simp [mtT, h]
theorem mt_extend {ts us : List T} (h : ts.length + us.length ≤ sizeL) : mtT .extend ts [.own us] = some (.fz .non, ts ++ us) := by simp [mtT, h]
theorem mt_pop (ts : List T) (u : T) : mtT .pop (ts ++ [u]) [] = some (u, ts) := by
  simp [mtT]
/-- a for with a promise kept -/
theorem forL_inv {α : Type} {enc : α → D} {f : D → Env → Out Fl} (I : List α → Env → Prop) {xs : List α} {e : Env} (h0 : I [] e) (h : ∀ pre x post e, xs = pre ++ x :: post → I pre e → ∃ e', f (enc x) e = .ok .nx e' ∧ I (pre ++ [x]) e') : ∃ e', forL f (xs.map enc) e = .ok .nx e' ∧ I xs e' := by
  have go : ∀ (ys pre : List α) (e : Env), xs = pre ++ ys → I pre e → ∃ e', forL f (ys.map enc) e = .ok .nx e' ∧ I xs e' := fun ys => by
    induction ys with
    | nil => intro pre e hx hi; exact ⟨e, rfl, by rw [hx, List.append_nil]; exact hi⟩
    | cons y ys ih =>
      intro pre e hx hi
      obtain ⟨e1, q1, q2⟩ := h pre y ys e hx hi
      obtain ⟨e2, r1, r2⟩ := ih (pre ++ [y]) e1 (by rw [hx]; simp) q2
      exact ⟨e2, by rw [List.map_cons, forL, q1]; exact r1, r2⟩
  exact go xs [] e rfl h0
/-! ### a list of the frame's own -/
@[simp] theorem own_nil : T.own [] = ol [] := (rfl)
@[simp] theorem own_1 (a : D) : T.own [.fz a] = ol [a] := (rfl)
@[simp] theorem own_2 (a b : D) : T.own [.fz a, .fz b] = ol [a, b] := (rfl)
@[simp] theorem own_3 (a b c : D) : T.own [.fz a, .fz b, .fz c] = ol [a, b, c] := (rfl)
@[simp] theorem own_4 (a b c d : D) : T.own [.fz a, .fz b, .fz c, .fz d] = ol [a, b, c, d] := (rfl)
@[simp] theorem own_fz (ds : List D) : T.own (ds.map .fz) = ol ds := (rfl)
@[simp] theorem own_map {α : Type} (g : α → D) (xs : List α) : T.own (xs.map fun x => .fz (g x)) = ol (xs.map g) := by rw [ol, List.map_map]; rfl
@[simp] theorem rdS_lol (ds : List D) (i : Nat) (e : Env) : rdS (some (.lk (ol ds))) i e = .ok (.p i []) e := (rfl)
@[simp] theorem isFz_ol (ds : List D) : T.isFz (ol ds) = false := (rfl)
@[simp] theorem mkTup_folx (a : D) (b : List D) : mkTup [.fz a, ol b] = .tup [.fz a, ol b] := (rfl)
@[simp] theorem mkTup_olf (a : List D) (b : D) : mkTup [ol a, .fz b] = .tup [ol a, .fz b] := (rfl)
@[simp] theorem mkTup_olol (a b : List D) : mkTup [ol a, ol b] = .tup [ol a, ol b] := (rfl)
@[simp] theorem mkTup_ffol (a b : D) (c : List D) : mkTup [.fz a, .fz b, ol c] = .tup [.fz a, .fz b, ol c] := (rfl)
@[simp] theorem mkTup_folol (a : D) (b c : List D) : mkTup [.fz a, ol b, ol c] = .tup [.fz a, ol b, ol c] := (rfl)
/-- what a slot's walk opens -/
def opS (s : Option Sl) (i : Nat) (e : Env) : Option ((List D × List (Nat × T)) × Env) := match ([] : List Nat), s with
    | [], some (.is (.own ts)) => some ((ers ts, [(i, (T.own ts).kids)]), e.set i (.lk (T.own ts).kids))
    | [], some (.lk (.own ts)) => if ts.all T.isFz then some ((ers ts, []), e) else none
    | ks, _ => match mvF (.p i ks) e with
      | some (d, e') => (match itemsD d with | some ds => some ((ds, []), e') | none => none)
      | none => none
@[simp] theorem opened_i (i : Nat) (e : Env) : opened (.p i []) e = opS e[i]? i e := (rfl)
@[simp] theorem opS_ol (ds : List D) (i : Nat) (e : Env) : opS (some (.is (ol ds))) i e = some ((ds, [(i, ol ds)]), e.set i (.lk (ol ds))) := by
  unfold ol opS
  simp only [kids_own, ers_fz]
@[simp] theorem opS_lol (ds : List D) (i : Nat) (e : Env) : opS (some (.lk (ol ds))) i e = some ((ds, []), e) := by
  unfold ol opS
  simp only [all_fz, ers_fz, if_true]
/-- a list's item by a slot -/
def sbT (t : T) (i : Nat) (b : D) : Option R := match getP t [] with
      | some (.own ts) => (match b with
        | .int n => (match ixN ts.length n with
          | some j => (match ts[j]? with
            | some (.fz d) => some (.t (.fz d))
            | some _ => some (.p i ([] ++ [j]))
            | none => none)
          | none => none)
        | _ => none)
      | some (.tup ts) => (match b with
        | .int n => (match ixN ts.length n with
          | some j => (match ts[j]? with
            | some (.fz d) => some (.t (.fz d))
            | _ => none)
          | none => none)
        | _ => none)
      | some (.fz dd) => (match subD dd b with | some d => some (.t (.fz d)) | none => none)
      | _ => none
@[simp] theorem subR_i (i : Nat) (b : D) (e : Env) : subR (.p i []) b e = optP (trS e[i]?) fun t => sbT t i b := by
  rw [← slotT_eq]
  have h : subR (.p i []) b e = (match slotT e i with | none => none | some t => sbT t i b) := rfl
  rw [h]
  cases slotT e i <;> rfl
@[simp] theorem sbT_ol (ds : List D) (i : Nat) (n : Int) : sbT (ol ds) i (.int n) = optP (ixD ds n) fun d => some (.t (.fz d)) := by
  unfold sbT
  simp only [getP_nil, ol]
  unfold ixD
  rw [List.length_map]
  cases hx : ixN ds.length n with
  | none => rfl
  | some j =>
    simp only [List.getElem?_map]
    cases ds[j]? <;> rfl
theorem app_ol {ds : List D} {d : D} {k : T → T → Out R} (h : ds.length < sizeL) : mtK .append (ol ds) [] [.fz d] k = k (.fz .non) (ol (ds ++ [d])) := by
  unfold mtK
  rw [getP_nil, optO_some, ownK_ol, mt_append (by rw [List.length_map]; exact h), optO_some, setP_nil, optO_some]
  simp [ol]
theorem ext_ol {ds us : List D} {k : T → T → Out R} (h : ds.length + us.length ≤ sizeL) : mtK .extend (ol ds) [] [ol us] k = k (.fz .non) (ol (ds ++ us)) := by
  unfold mtK
  rw [getP_nil, optO_some, ownK_ol, ol, mt_extend (by rw [List.length_map, List.length_map]; exact h), optO_some, setP_nil, optO_some]
  simp [ol]
theorem pop_ol {ds : List D} {d : D} {k : T → T → Out R} : mtK .pop (ol (ds ++ [d])) [] [] k = k (.fz d) (ol ds) := by
  unfold mtK
  rw [getP_nil, optO_some, ownK_ol, List.map_append]
  show optO (mtT .pop (ds.map T.fz ++ [T.fz d]) []) _ = _
  rw [mt_pop, optO_some, setP_nil, optO_some]
  rfl
@[simp] theorem map_unP (xs : List Pr) : xs.map (fun x => D.tup [.int x.1, .int x.2]) = xs.map encP := (rfl)
theorem minT2 (a b : Int) : biD .min [.tup [.int a, .int b]] = some (.fz (.int (min a b))) := rfl
theorem maxT2 (a b : Int) : biD .max [.tup [.int a, .int b]] = some (.fz (.int (max a b))) := rfl
theorem any2 (a b : Bool) : biD .any [.lst [.bl a, .bl b]] = some (.fz (.bl (a || b))) := by
  show some (T.fz (.bl (a || (b || false)))) = _
  rw [Bool.or_false]
theorem compL_two {u v : D} {f : D → Env → Out (List T)} {a b : T} {e : Env} (h1 : f u e = .ok [a] e) (h2 : f v e = .ok [b] e) : compL f [u, v] e = .ok [a, b] e := by
  simp [compL, h1, h2]
@[simp] theorem ixN_20 : ixN 2 0 = some 0 := (rfl)
@[simp] theorem ixN_21 : ixN 2 1 = some 1 := (rfl)
@[simp] theorem ixN_30 : ixN 3 0 = some 0 := (rfl)
@[simp] theorem ixN_31 : ixN 3 1 = some 1 := (rfl)
@[simp] theorem ixN_32 : ixN 3 2 = some 2 := (rfl)
@[simp] theorem ixN_40 : ixN 4 0 = some 0 := (rfl)
@[simp] theorem ixN_41 : ixN 4 1 = some 1 := (rfl)
@[simp] theorem ixN_42 : ixN 4 2 = some 2 := (rfl)
@[simp] theorem ixN_43 : ixN 4 3 = some 3 := (rfl)
theorem mulI {i j : Int} (h : mulOk i j = true) : binD .Mult (.int i) (.int j) = some (.fz (.int (i * j))) := by simp [binD, h]
theorem mulOk_l {i j : Int} (h1 : -(2 ^ 64) < i) (h2 : i < 2 ^ 64) : mulOk i j = true := by
  unfold mulOk
  rw [Bool.or_eq_true, Bool.and_eq_true]
  exact .inl ⟨decide_eq_true h1, decide_eq_true h2⟩
theorem mulOk_r {i j : Int} (h1 : -(2 ^ 64) < j) (h2 : j < 2 ^ 64) : mulOk i j = true := by
  unfold mulOk
  rw [Bool.or_eq_true, Bool.and_eq_true, Bool.and_eq_true]
  exact .inr ⟨decide_eq_true h1, decide_eq_true h2⟩
theorem powI {i : Int} {j : Nat} (h1 : i.natAbs < 2 ^ 64) (h2 : j ≤ 1000) : binD .Pow (.int i) (.int j) = some (.fz (.int (i ^ j))) := by
  have e : (0 ≤ (j : Int) ∧ (j : Int) ≤ 1000000 ∧ i.natAbs < 2 ^ 64) := ⟨by omega, by omega, h1⟩
  show (if 0 ≤ (j : Int) ∧ (j : Int) ≤ 1000000 ∧ i.natAbs < 2 ^ 64 then some (T.fz (.int (i ^ (j : Int).toNat))) else none) = _
  rw [if_pos e]
  rfl
theorem addL {xs ys : List D} (h : xs.length + ys.length ≤ sizeL) : binD .Add (.lst xs) (.lst ys) = some (ol (xs ++ ys)) := by simp [binD, h]
theorem addTt {xs ys : List D} (h : xs.length + ys.length ≤ sizeL) : binD .Add (.tup xs) (.tup ys) = some (.fz (.tup (xs ++ ys))) := by simp [binD, h]
@[simp] theorem kids_ol' (ds : List D) : (ol ds).kids = ol ds := kids_ol ds
@[simp] theorem opS_own (ts : List T) (i : Nat) (e : Env) : opS (some (.is (.own ts))) i e = some ((ers ts, [(i, ol (ers ts))]), e.set i (.lk (ol (ers ts)))) := (rfl)
theorem sortB (ds es : List D) (h : sortedD ds = some es) : biD .sorted [.lst ds] = some (ol es) := by
  show (match sortedD ds with | some es => some (ol es) | none => none) = _
  rw [h]
theorem ssetL (ds es : List D) (h : sortsetD ds = some es) : biD .sortset [.lst ds] = some (ol es) := by
  show (match sortsetD ds with | some es => some (ol es) | none => none) = _
  rw [h]
theorem ssetT (ds es : List D) (h : sortsetD ds = some es) : biD .sortset [.tup ds] = some (ol es) := by
  show (match sortsetD ds with | some es => some (ol es) | none => none) = _
  rw [h]
theorem intsOf_i : ∀ (is : List Int), intsOf (is.map .int) = some is
  | [] => rfl
  | i :: is => by rw [List.map_cons, intsOf, intsOf_i is]
theorem sumB (is : List Int) : biD .sum [.lst (is.map .int)] = some (.fz (.int is.sum)) := by
  show (match intsOf (is.map .int) with | some is => some (T.fz (.int is.sum)) | none => none) = _
  rw [intsOf_i]
theorem powI5 {i : Int} (h1 : i.natAbs < 2 ^ 64) : binD .Pow (.int i) (.int 5) = some (.fz (.int (i ^ 5))) := powI (j := 5) h1 (by decide)
theorem powI3 {i : Int} (h1 : i.natAbs < 2 ^ 64) : binD .Pow (.int i) (.int 3) = some (.fz (.int (i ^ 3))) := powI (j := 3) h1 (by decide)
theorem pow1018 : binD .Pow (.int 10) (.int 18) = some (.fz (.int 1000000000000000000)) := powI (i := 10) (j := 18) (by decide) (by decide)
theorem ixD_map {α : Type} {enc : α → D} {xs : List α} {k : Int} (h0 : 0 ≤ k) (h1 : k < xs.length) : ∃ x, xs[k.toNat]? = some x ∧ x ∈ xs ∧ ixD (xs.map enc) k = some (enc x) := by
  have h : k.toNat < xs.length := by omega
  refine ⟨xs[k.toNat], List.getElem?_eq_getElem h, List.getElem_mem h, ixD_in h0 ?_⟩
  rw [List.getElem?_map, List.getElem?_eq_getElem h]
  rfl
theorem whileL_end {c : Env → Out Bool} {f : Env → Out Fl} {n : Nat} {e : Env} (h : c e = .ok false e) : whileL c f (n + 1) e = .ok .nx e := by
  simp [whileL, h]
theorem whileL_step {c : Env → Out Bool} {f : Env → Out Fl} {n : Nat} {e e' : Env} (h : c e = .ok true e) (h2 : f e = .ok .nx e') : whileL c f (n + 1) e = whileL c f n e' := by
  simp [whileL, h, h2]
/-! ### statements by their places -/
def Ss.get : Ss → Nat → S
  | .nil, _ => .bad
  | .cons s _, 0 => s
  | .cons _ r, n + 1 => Ss.get r n
def Ss.drop : Ss → Nat → Ss
  | r, 0 => r
  | .nil, _ + 1 => .nil
  | .cons _ r, n + 1 => Ss.drop r n
def Ss.len : Ss → Nat
  | .nil => 0
  | .cons _ r => Ss.len r + 1
theorem exs_drop (C : Cf) : ∀ (b : Ss) (k : Nat) (e : Env), k < Ss.len b → exs C (Ss.drop b k) e = seqO (ex C (Ss.get b k) e) fun e1 => exs C (Ss.drop b (k + 1)) e1
  | .nil, k, e, h => by simp [Ss.len] at h
  | .cons s r, 0, e, _ => by cases r <;> rfl
  | .cons s r, k + 1, e, h => by
    have := exs_drop C r k e (by simp [Ss.len] at h; exact h)
    simp only [Ss.drop, Ss.get]
    exact this
theorem exs_over (C : Cf) : ∀ (b : Ss) (k : Nat) (e : Env), Ss.len b ≤ k → exs C (Ss.drop b k) e = .ok .nx e
  | .nil, 0, e, _ => rfl
  | .nil, k + 1, e, _ => rfl
  | .cons s r, 0, e, h => by simp [Ss.len] at h
  | .cons s r, k + 1, e, h => exs_over C r k e (by simp [Ss.len] at h; exact h)
theorem drop_0 (b : Ss) : Ss.drop b 0 = b := by cases b <;> rfl
@[simp] theorem get_0 (s : S) (r : Ss) : Ss.get (.cons s r) 0 = s := (rfl)
@[simp] theorem get_s (s : S) (r : Ss) (n : Nat) : Ss.get (.cons s r) (n + 1) = Ss.get r n := (rfl)
/-- a for that may go on at once -/
theorem forL_inv2 {α : Type} {enc : α → D} {f : D → Env → Out Fl} (I : List α → Env → Prop) {xs : List α} {e : Env} (h0 : I [] e) (h : ∀ pre x post e, xs = pre ++ x :: post → I pre e → ∃ e', (f (enc x) e = .ok .nx e' ∨ f (enc x) e = .ok .ct e') ∧ I (pre ++ [x]) e') : ∃ e', forL f (xs.map enc) e = .ok .nx e' ∧ I xs e' := by
  have go : ∀ (ys pre : List α) (e : Env), xs = pre ++ ys → I pre e → ∃ e', forL f (ys.map enc) e = .ok .nx e' ∧ I xs e' := fun ys => by
    induction ys with
    | nil => intro pre e hx hi; exact ⟨e, rfl, by rw [hx, List.append_nil]; exact hi⟩
    | cons y ys ih =>
      intro pre e hx hi
      obtain ⟨e1, q1, q2⟩ := h pre y ys e hx hi
      obtain ⟨e2, r1, r2⟩ := ih (pre ++ [y]) e1 (by rw [hx]; simp) q2
      refine ⟨e2, ?_, r2⟩
      rw [List.map_cons, forL]
      rcases q1 with q1 | q1 <;> (rw [q1]; exact r1)
  exact go xs [] e rfl h0
end Fx.Fo

set_option Elab.async false
set_option linter.all false
set_option maxRecDepth 100000
/-! Fx: sorted lists of pairs, plain. -/
namespace Fx.Fo
open PySem
def pL (p : Pr) : List Int := [p.1, p.2]
theorem pL_inj {p q : Pr} (h : pL p = pL q) : p = q := by
  unfold pL at h
  injection h with h1 h2
  injection h2 with h2 _
  exact Prod.ext h1 h2
theorem tI_pL (p : Pr) : tI (pL p) = encP p := rfl
theorem tupsOf_pp : ∀ (l : List Pr), tupsOf (l.map encP) = some (l.map pL)
  | [] => rfl
  | p :: l => by
    have h1 : intsOf [D.int p.1, D.int p.2] = some [p.1, p.2] := rfl
    have h2 := tupsOf_pp l
    simp only [List.map_cons, encP_app, tupsOf, h1, h2]
    rfl
theorem map_pL {m : List (List Int)} : ∀ {l : List Pr}, m.Perm (l.map pL) → ∃ R : List Pr, m = R.map pL ∧ R.Perm l := fun {l} h => by
  have key : ∀ {m : List (List Int)}, (∀ x ∈ m, ∃ p, x = pL p) → ∃ R : List Pr, m = R.map pL := fun {m} => by
    induction m with
    | nil => intro _; exact ⟨[], rfl⟩
    | cons x m ih =>
      intro h
      obtain ⟨p, hp⟩ := h x List.mem_cons_self
      obtain ⟨R, hR⟩ := ih fun y hy => h y (List.mem_cons_of_mem _ hy)
      exact ⟨p :: R, by rw [hp, hR]; rfl⟩
  obtain ⟨R, hR⟩ := key fun x hx => by
    obtain ⟨p, _, hp⟩ := List.mem_map.mp (h.mem_iff.mp hx)
    exact ⟨p, hp.symm⟩
  refine ⟨R, hR, ?_⟩
  rw [hR] at h
  have cnt : ∀ (l : List Pr) (p : Pr), (l.map pL).count (pL p) = l.count p := fun l p => by
    induction l with
    | nil => rfl
    | cons q l ih =>
      rw [List.map_cons, List.count_cons, List.count_cons, ih]
      by_cases e : q = p
      · subst e; simp
      · have : ¬ pL q = pL p := fun z => e (pL_inj z)
        simp [e, this]
  rw [List.perm_iff_count]
  intro p
  have := List.perm_iff_count.mp h (pL p)
  rw [cnt, cnt] at this
  exact this
/-- none stands behind a greater one -/
def Srt (R : List Pr) : Prop := R.Pairwise fun p q => ltP q p = false
theorem ltL_pL (p q : Pr) : ltL (pL p) (pL q) = ltP p q := by
  unfold pL ltP
  simp only [ltL]
  by_cases h1 : p.1 = q.1 <;> by_cases h2 : p.2 = q.2 <;> simp [h1, h2]
theorem srt_of {R : List Pr} : SrtO.Srtd ltL (R.map pL) → Srt R := by
  intro h
  unfold Srt
  have h := List.pairwise_map.mp h
  refine h.imp fun {p q} z => ?_
  rw [← ltL_pL]
  exact z
theorem sorted_pp (l : List Pr) : ∃ R : List Pr, sortedD (l.map encP) = some (R.map encP) ∧ R.Perm l ∧ Srt R := by
  cases l with
  | nil => exact ⟨[], rfl, .refl _, .nil⟩
  | cons p l =>
    obtain ⟨R, h1, h2⟩ := map_pL (sortL_perm ((p :: l).map pL))
    refine ⟨R, ?_, h2, ?_⟩
    · have e1 : intsOf ((p :: l).map encP) = none := rfl
      unfold sortedD
      rw [e1, tupsOf_pp]
      simp only [h1, List.map_map]
      rfl
    · exact srt_of (h1 ▸ sortL_srt _)
theorem sortset_pp (l : List Pr) (h0 : ∀ p ∈ l, 0 ≤ p.1 ∧ 0 ≤ p.2) (hl : l.length < 64) : ∃ R : List Pr, sortsetD (l.map encP) = some (R.map encP) ∧ R.Nodup ∧ (∀ p, p ∈ R ↔ p ∈ l) ∧ Srt R := by
  have hn := nodup_firstsL (l.map pL)
  obtain ⟨R0, h1⟩ : ∃ R0 : List Pr, firstsL (l.map pL) = R0.map pL := by
    have key : ∀ {m : List (List Int)}, (∀ x ∈ m, ∃ p, x = pL p) → ∃ R : List Pr, m = R.map pL := fun {m} => by
      induction m with
      | nil => intro _; exact ⟨[], rfl⟩
      | cons x m ih =>
        intro h
        obtain ⟨p, hp⟩ := h x List.mem_cons_self
        obtain ⟨R, hR⟩ := ih fun y hy => h y (List.mem_cons_of_mem _ hy)
        exact ⟨p :: R, by rw [hp, hR]; rfl⟩
    refine key fun x hx => ?_
    obtain ⟨p, _, hp⟩ := List.mem_map.mp (mem_firstsL.mp hx)
    exact ⟨p, hp.symm⟩
  have hm : ∀ p, p ∈ R0 ↔ p ∈ l := fun p => by
    have e1 : pL p ∈ R0.map pL ↔ pL p ∈ l.map pL := by rw [← h1]; exact mem_firstsL
    have e2 : ∀ m : List Pr, pL p ∈ m.map pL ↔ p ∈ m := fun m => by
      rw [List.mem_map]
      exact ⟨fun ⟨q, q1, q2⟩ => pL_inj q2 ▸ q1, fun h => ⟨p, h, rfl⟩⟩
    rw [e2, e2] at e1
    exact e1
  obtain ⟨R, q1, q2⟩ := map_pL (m := sortL (firstsL (l.map pL))) (l := R0) (by rw [← h1]; exact sortL_perm (firstsL (l.map pL)))
  refine ⟨R, ?_, ?_, fun p => q2.mem_iff.trans (hm p), ?_⟩
  · unfold sortsetD
    rw [tupsOf_pp]
    have ev : (evenL (l.map pL) && decide ((l.map pL).length < 64)) = true := by
      rw [Bool.and_eq_true]
      refine ⟨?_, by rw [List.length_map]; exact decide_eq_true hl⟩
      simp only [evenL, List.all_eq_true, Bool.and_eq_true, decide_eq_true_eq]
      intro is his
      obtain ⟨p, hp, rfl⟩ := List.mem_map.mp his
      refine ⟨?_, ?_⟩
      · cases l with
        | nil => simp at hp
        | cons q l => rfl
      · intro i hi
        have := h0 p hp
        unfold pL at hi
        simp at hi
        rcases hi with rfl | rfl
        · exact this.1
        · exact this.2
    simp only [ev, if_true]
    rw [q1, List.map_map]
    rfl
  · refine q2.symm.nodup_iff.mp ?_
    rw [h1] at hn
    exact (List.pairwise_map.mp hn).imp fun {a b} z e => z (congrArg pL e)
  · exact srt_of (q1 ▸ sortL_srt _)
/-- two whole numbers in order -/
theorem sorted_ii (a b : Int) : sortedD [.int a, .int b] = some [.int (min a b), .int (max a b)] := by
  have e1 : intsOf [D.int a, D.int b] = some [a, b] := rfl
  unfold sortedD
  rw [e1]
  simp only [sortI, insI]
  split
  · rw [Int.min_eq_left (by assumption), Int.max_eq_right (by assumption)]; rfl
  · rw [Int.min_eq_right (by omega), Int.max_eq_left (by omega)]; rfl
/-- strictly ascending -/
def ascP : List Pr → Prop
  | [] => True
  | p :: l => (∀ q ∈ l, ltP p q = true) ∧ ascP l
theorem ltP_tot {p q : Pr} (h : ltP q p = false) (hn : p ≠ q) : ltP p q = true := by
  unfold ltP at *
  have : ¬ (p.1 = q.1 ∧ p.2 = q.2) := fun z => hn (Prod.ext z.1 z.2)
  simp only [Bool.or_eq_false_iff, Bool.and_eq_false_iff, decide_eq_false_iff_not, Bool.or_eq_true, Bool.and_eq_true, decide_eq_true_eq] at *
  omega
theorem asc_of : ∀ {R : List Pr}, Srt R → R.Nodup → ascP R
  | [], _, _ => trivial
  | p :: R, hs, hn => by
    obtain ⟨s1, s2⟩ := List.pairwise_cons.mp hs
    obtain ⟨n1, n2⟩ := List.nodup_cons.mp hn
    exact ⟨fun q hq => ltP_tot (s1 q hq) fun e => n1 (e ▸ hq), asc_of s2 n2⟩
end Fx.Fo

set_option Elab.async false
set_option linter.all false
/-! Pg: chords of a polygon, plain. -/
namespace Pg
abbrev Pr := Int × Int
/-- two chords cross -/
def X (p q : Pr) : Prop := (p.1 < q.1 ∧ q.1 < p.2 ∧ p.2 < q.2) ∨ (q.1 < p.1 ∧ p.1 < q.2 ∧ q.2 < p.2)
instance (p q : Pr) : Decidable (X p q) := by unfold X; infer_instance
theorem X.symm {p q : Pr} (h : X p q) : X q p := by unfold X at *; omega
theorem X.irr (p : Pr) : ¬ X p p := by unfold X; omega
/-- chords of an interval -/
def Ch (lo hi : Int) (p : Pr) : Prop := lo ≤ p.1 ∧ p.1 + 2 ≤ p.2 ∧ p.2 ≤ hi
instance (lo hi : Int) (p : Pr) : Decidable (Ch lo hi p) := by unfold Ch; infer_instance
theorem Pr.ext' {p q : Pr} (h1 : p.1 = q.1) (h2 : p.2 = q.2) : p = q := Prod.ext h1 h2
/-- a last place -/
theorem last_of {P : Int → Prop} [DecidablePred P] {lo hi : Int} : ∀ (k : Nat), (k : Int) < hi - lo → (∃ m, lo < m ∧ m ≤ lo + k ∧ P m) → ∃ m, lo < m ∧ m ≤ lo + k ∧ P m ∧ ∀ m', m < m' → m' ≤ lo + k → ¬ P m'
  | 0, _, ⟨m, h1, h2, _⟩ => by omega
  | k + 1, hk, ⟨m, h1, h2, h3⟩ => by
    by_cases hp : P (lo + (k + 1 : Nat))
    · exact ⟨lo + (k + 1 : Nat), by omega, Int.le_refl _, hp, fun m' a b => by omega⟩
    · have hm : m ≤ lo + (k : Nat) := by
        by_cases e : m = lo + (k + 1 : Nat)
        · exact absurd (e ▸ h3) hp
        · omega
      obtain ⟨m0, a1, a2, a3, a4⟩ := last_of (P := P) (hi := hi) k (by omega) ⟨m, h1, hm, h3⟩
      refine ⟨m0, a1, by omega, a3, fun m' b1 b2 => ?_⟩
      by_cases e : m' = lo + (k + 1 : Nat)
      · exact e ▸ hp
      · exact a4 m' b1 (by omega)
theorem len_part {α : Type} {A B C : α → Bool} : ∀ {S : List α}, (∀ p ∈ S, (A p = true ∧ B p = false ∧ C p = false) ∨ (A p = false ∧ B p = true ∧ C p = false) ∨ (A p = false ∧ B p = false ∧ C p = true)) →
    S.length = (S.filter A).length + (S.filter B).length + (S.filter C).length
  | [], _ => rfl
  | p :: S, h => by
    have ih := len_part fun q hq => h q (List.mem_cons_of_mem _ hq)
    rcases h p List.mem_cons_self with ⟨a, b, c⟩ | ⟨a, b, c⟩ | ⟨a, b, c⟩ <;> simp [List.filter_cons, a, b, c] <;> omega
theorem filter_one {α : Type} [DecidableEq α] {x : α} : ∀ {S : List α}, S.Nodup → x ∈ S → (S.filter fun p => decide (p = x)).length = 1
  | [], _, h => by simp at h
  | y :: S, nd, h => by
    obtain ⟨h1, h2⟩ := List.nodup_cons.mp nd
    by_cases e : y = x
    · subst e
      have : S.filter (fun p => decide (p = y)) = [] := by
        rw [List.filter_eq_nil_iff]
        intro a ha
        simp only [decide_eq_true_eq]
        rintro rfl
        exact h1 ha
      simp [List.filter_cons, this]
    · have hx : x ∈ S := by
        rcases List.mem_cons.mp h with z | z
        · exact absurd z.symm e
        · exact z
      rw [List.filter_cons, if_neg (by simpa using e)]
      exact filter_one h2 hx
/-- pairwise without a crossing, and nothing can be put in -/
structure Full (lo hi : Int) (S : List Pr) : Prop where
  nd : S.Nodup
  ch : ∀ p ∈ S, Ch lo hi p
  nx : ∀ p ∈ S, ∀ q ∈ S, ¬ X p q
  top : lo + 2 ≤ hi → (lo, hi) ∈ S
  mx : ∀ p, Ch lo hi p → (∀ q ∈ S, ¬ X p q) → p ∈ S
theorem Full.split {lo hi : Int} {S : List Pr} (h : Full lo hi S) (hk : lo + 2 ≤ hi) : ∃ m, lo < m ∧ m < hi ∧ (m = lo + 1 ∨ (lo, m) ∈ S) ∧ (m + 1 = hi ∨ (m, hi) ∈ S) := by
  obtain ⟨m, a1, a2, a3, a4⟩ := last_of (P := fun m => m = lo + 1 ∨ (lo, m) ∈ S) (lo := lo) (hi := hi) (hi - lo - 1).toNat (by omega) ⟨lo + 1, by omega, by omega, .inl rfl⟩
  have hm : m < hi := by omega
  refine ⟨m, a1, hm, a3, ?_⟩
  by_cases e : m + 1 = hi
  · exact .inl e
  · refine .inr (h.mx (m, hi) ⟨by omega, by show m + 2 ≤ hi; omega, Int.le_refl _⟩ fun q hq hx => ?_)
    have hc := h.ch q hq
    unfold Ch at hc
    unfold X at hx
    simp only at hx
    have hq1 : q.1 < m ∧ m < q.2 ∧ q.2 < hi := by omega
    by_cases e1 : q.1 = lo
    · refine a4 q.2 (by omega) (by omega) (.inr ?_)
      have : q = (lo, q.2) := Pr.ext' e1 rfl
      rw [← this]; exact hq
    · rcases a3 with a3 | a3
      · omega
      · exact h.nx (lo, m) a3 q hq (.inl ⟨by show lo < q.1; omega, hq1.1, hq1.2.1⟩)
theorem Full.sub {lo hi a b : Int} {S : List Pr} (h : Full lo hi S) (h1 : lo ≤ a) (h2 : b ≤ hi) (hab : a + 1 = b ∨ (a, b) ∈ S) : Full a b (S.filter fun p => decide (a ≤ p.1 ∧ p.2 ≤ b)) := by
  refine ⟨h.nd.filter _, fun p hp => ?_, fun p hp q hq => h.nx p (List.mem_filter.mp hp).1 q (List.mem_filter.mp hq).1, fun hk => ?_, fun p hp hn => ?_⟩
  · obtain ⟨z1, z2⟩ := List.mem_filter.mp hp
    have := h.ch p z1
    simp only [decide_eq_true_eq] at z2
    exact ⟨z2.1, this.2.1, z2.2⟩
  · rcases hab with e | e
    · omega
    · exact List.mem_filter.mpr ⟨e, by simp⟩
  · obtain ⟨p1, p2, p3⟩ := hp
    refine List.mem_filter.mpr ⟨h.mx p ⟨by omega, p2, by omega⟩ fun q hq hx => ?_, by simp only [decide_eq_true_eq]; exact ⟨p1, p3⟩⟩
    by_cases hin : a ≤ q.1 ∧ q.2 ≤ b
    · exact hn q (List.mem_filter.mpr ⟨hq, by simpa using hin⟩) hx
    · rcases hab with e | e
      · omega
      · have := h.nx (a, b) e q hq
        unfold X at this hx
        simp only at this
        omega
theorem Full.len : ∀ (k : Nat) {lo hi : Int} {S : List Pr}, hi - lo = k → 1 ≤ k → Full lo hi S → (S.length : Int) = hi - lo - 1
  | 0, _, _, _, _, hk, _ => by omega
  | 1, lo, hi, S, e, _, h => by
    have : S = [] := List.eq_nil_iff_forall_not_mem.mpr fun p hp => by
      have := h.ch p hp
      unfold Ch at this
      omega
    subst this
    simp; omega
  | k + 2, lo, hi, S, e, _, h => by
    obtain ⟨m, m1, m2, m3, m4⟩ := h.split (by omega)
    have h1 := h.sub (a := lo) (b := m) (Int.le_refl _) (by omega) (by rcases m3 with z | z; exact .inl z.symm; exact .inr z)
    have h2 := h.sub (a := m) (b := hi) (by omega) (Int.le_refl _) m4
    have l1 := Full.len (m - lo).toNat (by omega) (by omega) h1
    have l2 := Full.len (hi - m).toNat (by omega) (by omega) h2
    have tp := h.top (by omega)
    have l0 := filter_one h.nd tp
    have lp := len_part (S := S) (A := fun p => decide (p = (lo, hi))) (B := fun p => decide (lo ≤ p.1 ∧ p.2 ≤ m)) (C := fun p => decide (m ≤ p.1 ∧ p.2 ≤ hi)) fun p hp => by
      have hc := h.ch p hp
      unfold Ch at hc
      simp only [decide_eq_true_eq, decide_eq_false_iff_not]
      have he : p = (lo, hi) ↔ p.1 = lo ∧ p.2 = hi := ⟨fun z => by rw [z]; exact ⟨rfl, rfl⟩, fun z => Pr.ext' z.1 z.2⟩
      rw [he]
      have nx1 : p.1 < m → m < p.2 → p.1 = lo ∧ p.2 = hi := fun z1 z2 => by
        refine ⟨?_, ?_⟩
        · rcases m3 with q | q
          · omega
          · have := h.nx (lo, m) q p hp
            unfold X at this
            simp only at this
            omega
        · rcases m4 with q | q
          · omega
          · have := h.nx (m, hi) q p hp
            unfold X at this
            simp only at this
            omega
      by_cases c1 : p.1 < m
      · by_cases c2 : m < p.2
        · have := nx1 c1 c2
          left; omega
        · right; left; omega
      · right; right; omega
    have lp' := congrArg (fun n : Nat => (n : Int)) lp
    simp only [l0, Int.natCast_add, l1, l2] at lp'
    rw [lp']
    simp only [Int.cast_ofNat_Int]
    clear lp lp' l0 l1 l2 m3 m4
    omega
  termination_by k => k
end Pg

set_option Elab.async false
set_option linter.all false
/-! Pg: triangulations, drawn. -/
namespace Pg
/-- the chords of a parted interval, its own among them -/
inductive Tri : Int → Int → List Pr → Prop
  | leaf (f : Int) : Tri f (f + 1) []
  | node {f t l : Int} {A B : List Pr} : Tri f t A → Tri t l B → Tri f l ((f, l) :: (A ++ B))
  | perm {f l : Int} {S S' : List Pr} : Tri f l S → S.Perm S' → Tri f l S'
theorem Tri.lt {f l : Int} {S : List Pr} (h : Tri f l S) : f < l := by
  induction h with
  | leaf => omega
  | node _ _ a b => omega
  | perm _ _ a => exact a
theorem Tri.ch {f l : Int} {S : List Pr} (h : Tri f l S) : ∀ p ∈ S, Ch f l p := by
  induction h with
  | leaf => intro p hp; simp at hp
  | node h1 h2 a b =>
    have q1 := h1.lt
    have q2 := h2.lt
    intro p hp
    rcases List.mem_cons.mp hp with e | hp
    · subst e; exact ⟨Int.le_refl _, by show _ + 2 ≤ _; omega, Int.le_refl _⟩
    · rcases List.mem_append.mp hp with z | z
      · have := a p z; unfold Ch at *; omega
      · have := b p z; unfold Ch at *; omega
  | perm _ q a => exact fun p hp => a p (q.mem_iff.mpr hp)
theorem Tri.len {f l : Int} {S : List Pr} (h : Tri f l S) : (S.length : Int) = l - f - 1 := by
  induction h with
  | leaf => simp; omega
  | node _ _ a b => rw [List.length_cons, List.length_append]; omega
  | perm _ q a => rw [← q.length_eq]; exact a
theorem Tri.nx {f l : Int} {S : List Pr} (h : Tri f l S) : ∀ p ∈ S, ∀ q ∈ S, ¬ X p q := by
  induction h with
  | leaf => intro p hp; simp at hp
  | @node f t l A B h1 h2 a b =>
    have c1 := h1.ch
    have c2 := h2.ch
    have q1 := h1.lt
    have q2 := h2.lt
    have key : ∀ p ∈ ((f, l) :: (A ++ B)), p = (f, l) ∨ (p ∈ A ∧ Ch f t p) ∨ (p ∈ B ∧ Ch t l p) := fun p hp => by
      rcases List.mem_cons.mp hp with e | hp
      · exact .inl e
      · rcases List.mem_append.mp hp with z | z
        · exact .inr (.inl ⟨z, c1 p z⟩)
        · exact .inr (.inr ⟨z, c2 p z⟩)
    intro p hp q hq
    rcases key p hp with rfl | ⟨z1, z2⟩ | ⟨z1, z2⟩ <;> rcases key q hq with rfl | ⟨y1, y2⟩ | ⟨y1, y2⟩
    all_goals first
      | exact a p z1 q y1
      | exact b p z1 q y1
      | (unfold Ch at *; unfold X; (try simp only at *); omega)
  | perm _ q a => exact fun p hp r hr => a p (q.mem_iff.mpr hp) r (q.mem_iff.mpr hr)
theorem Tri.nd {f l : Int} {S : List Pr} (h : Tri f l S) : S.Nodup := by
  induction h with
  | leaf => exact .nil
  | @node f t l A B h1 h2 a b =>
    have c1 := h1.ch
    have c2 := h2.ch
    have q1 := h1.lt
    have q2 := h2.lt
    refine List.nodup_cons.mpr ⟨fun z => ?_, List.nodup_append.mpr ⟨a, b, fun p hp q hq e => ?_⟩⟩
    · rcases List.mem_append.mp z with z | z
      · have := c1 _ z; unfold Ch at this; simp only at this; omega
      · have := c2 _ z; unfold Ch at this; simp only at this; omega
    · subst e
      have := c1 _ hp
      have := c2 _ hq
      unfold Ch at *
      omega
  | perm _ q a => exact q.nodup_iff.mp a
theorem Tri.top {f l : Int} {S : List Pr} (h : Tri f l S) : f + 2 ≤ l → (f, l) ∈ S := by
  induction h with
  | leaf => intro; omega
  | node _ _ _ _ => intro _; exact List.mem_cons_self
  | perm _ q a => exact fun z => q.mem_iff.mp (a z)
/-- several intervals, one after another -/
inductive Fo : List Pr → List Pr → Prop
  | nil : Fo [] []
  | cons {f l : Int} {st S Y : List Pr} : Tri f l S → Fo st Y → Fo ((f, l) :: st) (S ++ Y)
/-- valid chords of a polygon with n corners, no sides -/
def Vd (n : Int) (p : Pr) : Prop := 0 ≤ p.1 ∧ p.1 + 2 ≤ p.2 ∧ p.2 < n ∧ ¬ (p.1 = 0 ∧ p.2 = n - 1)
instance (n : Int) (p : Pr) : Decidable (Vd n p) := by unfold Vd; infer_instance
/-- a flexagon's diagonals, in any order -/
structure Flx (n : Int) (S : List Pr) : Prop where
  three : 3 ≤ n
  nd : S.Nodup
  vd : ∀ p ∈ S, Vd n p
  nx : ∀ p ∈ S, ∀ q ∈ S, ¬ X p q
  len : (S.length : Int) = n - 3
theorem Flx.perm {n : Int} {S T : List Pr} (h : Flx n S) (p : S.Perm T) : Flx n T :=
  ⟨h.three, p.nodup_iff.mp h.nd, fun q hq => h.vd q (p.mem_iff.mpr hq), fun a ha b hb => h.nx a (p.mem_iff.mpr ha) b (p.mem_iff.mpr hb), by rw [← p.length_eq]; exact h.len⟩
theorem Flx.of_tri {n : Int} {S : List Pr} (h3 : 3 ≤ n) (h : Tri 0 (n - 1) ((0, n - 1) :: S)) : Flx n S := by
  have nd := List.nodup_cons.mp h.nd
  refine ⟨h3, nd.2, fun p hp => ?_, fun p hp q hq => h.nx p (List.mem_cons_of_mem _ hp) q (List.mem_cons_of_mem _ hq), ?_⟩
  · have hc := h.ch p (List.mem_cons_of_mem _ hp)
    unfold Ch at hc
    refine ⟨hc.1, hc.2.1, by omega, fun z => nd.1 ?_⟩
    have : p = (0, n - 1) := Pr.ext' z.1 z.2
    rw [← this]; exact hp
  · have := h.len
    rw [List.length_cons] at this
    omega
/-- what is full, but for the long side -/
theorem Flx.of_full {n : Int} {S : List Pr} (h3 : 3 ≤ n) (nd : S.Nodup) (vd : ∀ p ∈ S, Vd n p) (nx : ∀ p ∈ S, ∀ q ∈ S, ¬ X p q) (mx : ∀ p, Vd n p → (∀ q ∈ S, ¬ X p q) → p ∈ S) : Flx n S := by
  have hF : Full 0 (n - 1) ((0, n - 1) :: S) := by
    refine ⟨List.nodup_cons.mpr ⟨fun z => (vd _ z).2.2.2 ⟨rfl, rfl⟩, nd⟩, fun p hp => ?_, fun p hp q hq => ?_, fun _ => List.mem_cons_self, fun p hp hn => ?_⟩
    · rcases List.mem_cons.mp hp with e | hp
      · subst e; exact ⟨Int.le_refl _, by show (0 : Int) + 2 ≤ n - 1; omega, Int.le_refl _⟩
      · have := vd p hp; unfold Vd at this; unfold Ch; omega
    · have lem : ∀ r ∈ S, ¬ X (0, n - 1) r := fun r hr => by
        have := vd r hr; unfold Vd at this; unfold X; simp only; omega
      rcases List.mem_cons.mp hp with e | hp <;> rcases List.mem_cons.mp hq with e' | hq
      · subst e e'; exact X.irr _
      · subst e; exact lem q hq
      · subst e'; exact fun z => lem p hp z.symm
      · exact nx p hp q hq
    · by_cases e : p.1 = 0 ∧ p.2 = n - 1
      · have : p = (0, n - 1) := Pr.ext' e.1 e.2
        rw [this]; exact List.mem_cons_self
      · refine List.mem_cons_of_mem _ (mx p ?_ fun q hq => hn q (List.mem_cons_of_mem _ hq))
        unfold Ch at hp; unfold Vd; omega
  have := Full.len (n - 1).toNat (by omega) (by omega) hF
  rw [List.length_cons] at this
  exact ⟨h3, nd, vd, nx, by omega⟩
/-! ### turned about -/
def rt (n t a : Int) : Int := (a + t) % n
theorem rt_eq {n t a : Int} (h1 : 0 ≤ a) (h2 : a < n) (h3 : 0 ≤ t) (h4 : t < n) : rt n t a = if a + t < n then a + t else a + t - n := by
  unfold rt
  split
  · exact Int.emod_eq_of_lt (by omega) (by assumption)
  · rw [← Int.sub_emod_right]
    exact Int.emod_eq_of_lt (by omega) (by omega)
def turn (n t : Int) (p : Pr) : Pr := (min (rt n t p.1) (rt n t p.2), max (rt n t p.1) (rt n t p.2))
theorem turn_vd {n t : Int} {p : Pr} (h3 : 0 ≤ t) (h4 : t < n) (h : Vd n p) : Vd n (turn n t p) := by
  unfold Vd at *
  unfold turn
  simp only
  rw [rt_eq (by omega) (by omega) h3 h4, rt_eq (a := p.2) (by omega) (by omega) h3 h4]
  split <;> split <;> omega
theorem turn_inj {n t : Int} {p q : Pr} (h3 : 0 ≤ t) (h4 : t < n) (hp : Vd n p) (hq : Vd n q) (h : turn n t p = turn n t q) : p = q := by
  have e1 := congrArg (·.1) h
  have e2 := congrArg (·.2) h
  unfold turn at e1 e2
  simp only at e1 e2
  unfold Vd at *
  rw [rt_eq (by omega) (by omega) h3 h4, rt_eq (a := p.2) (by omega) (by omega) h3 h4, rt_eq (a := q.1) (by omega) (by omega) h3 h4, rt_eq (a := q.2) (by omega) (by omega) h3 h4] at e1 e2
  refine Pr.ext' ?_ ?_ <;> (split at e1 <;> split at e1 <;> split at e1 <;> split at e1 <;> omega)
theorem turn_nx {n t : Int} {p q : Pr} (h3 : 0 ≤ t) (h4 : t < n) (hp : Vd n p) (hq : Vd n q) (h : X (turn n t p) (turn n t q)) : X p q := by
  unfold turn X at h
  simp only at h
  unfold Vd at *
  unfold X
  rw [rt_eq (by omega) (by omega) h3 h4, rt_eq (a := p.2) (by omega) (by omega) h3 h4, rt_eq (a := q.1) (by omega) (by omega) h3 h4, rt_eq (a := q.2) (by omega) (by omega) h3 h4] at h
  split at h <;> split at h <;> split at h <;> split at h <;> omega
theorem map_nd {α β : Type} {f : α → β} : ∀ {S : List α}, S.Nodup → (∀ p ∈ S, ∀ q ∈ S, f p = f q → p = q) → (S.map f).Nodup
  | [], _, _ => .nil
  | p :: S, nd, h => by
    obtain ⟨n1, n2⟩ := List.nodup_cons.mp nd
    rw [List.map_cons]
    refine List.nodup_cons.mpr ⟨fun z => ?_, map_nd n2 fun a ha b hb => h a (List.mem_cons_of_mem _ ha) b (List.mem_cons_of_mem _ hb)⟩
    obtain ⟨q, q1, q2⟩ := List.mem_map.mp z
    have := h q (List.mem_cons_of_mem _ q1) p List.mem_cons_self q2
    subst this
    exact n1 q1
theorem Flx.turn {n t : Int} {S : List Pr} (h3 : 0 ≤ t) (h4 : t < n) (h : Flx n S) : Flx n (S.map (Pg.turn n t)) := by
  refine ⟨h.three, map_nd h.nd fun p hp q hq => turn_inj h3 h4 (h.vd p hp) (h.vd q hq), fun p hp => ?_, fun p hp q hq hx => ?_, by rw [List.length_map]; exact h.len⟩
  · obtain ⟨p, p1, rfl⟩ := List.mem_map.mp hp
    exact turn_vd h3 h4 (h.vd p p1)
  · obtain ⟨p, p1, rfl⟩ := List.mem_map.mp hp
    obtain ⟨q, q1, rfl⟩ := List.mem_map.mp hq
    exact h.nx p p1 q q1 (turn_nx h3 h4 (h.vd p p1) (h.vd q q1) hx)
end Pg

set_option Elab.async false
set_option linter.all false
set_option maxRecDepth 100000
namespace K53
open Fx Fx.Fo PySem
/-- is_integer(value); slots 0 value -/
def b_is_integer_0 : Ss := (.cons (.ret (.and (.bi .isi (.cons (.v 0) (.cons (.c (D.ty "int")) .nil))) (.not (.bi .isi (.cons (.v 0) (.cons (.c (D.ty "bool")) .nil))))))
  .nil)
/-- is_within(value, low, high); slots 0 value 1 low 2 high -/
def b_is_within_0 : Ss := (.cons (.ret (.and (.call 0 (.cons (.v 0) .nil) []) (.cmp (.v 1) (.more .LtE (.v 0) (.one .LtE (.v 2))))))
  .nil)
/-- is_index(value, many); slots 0 value 1 many -/
def b_is_index_0 : Ss := (.cons (.ret (.and (.call 0 (.cons (.v 0) .nil) []) (.cmp (.c (D.int 0)) (.more .LtE (.v 0) (.one .Lt (.v 1))))))
  .nil)
/-- is_list(value); slots 0 value -/
def b_is_list_0 : Ss := (.cons (.ret (.bi .isi (.cons (.v 0) (.cons (.tup (.cons (.c (D.ty "list")) (.cons (.c (D.ty "tuple")) .nil))) .nil))))
  .nil)
/-- is_tuple(value, many); slots 0 value 1 many -/
def b_is_tuple_0 : Ss := (.cons (.ret (.and (.bi .isi (.cons (.v 0) (.cons (.c (D.ty "tuple")) .nil))) (.cmp (.bi .len (.cons (.v 0) .nil)) (.one .Eq (.v 1)))))
  .nil)
/-- ascends(items); slots 0 items 1 one 2 other -/
def b_ascends_0 : Ss := (.cons (.ret (.bi .all (.cons (.comp [1, 2] (.cmp (.v 1) (.one .Lt (.v 2))) (.t2 (.n 1) (.n 2)) (.zip (.v 0) (.slc (.v 0) (.some (.c (D.int 1))) .none)) .none) .nil)))
  .nil)
/-- check_faces(faces); slots 0 faces -/
def b_check_faces_0 : Ss := (.cons (.ite (.not (.call 1 (.cons (.v 0) (.cons (.g 0) (.cons (.g 1) .nil))) [])) (.cons .bad
  .nil) .nil)
  .nil)
/-- is_pair(value, count); slots 0 value 1 count -/
def b_is_pair_0 : Ss := (.cons (.ret (.and (.call 4 (.cons (.v 0) (.cons (.c (D.int 2)) .nil)) []) (.and (.call 2 (.cons (.sub (.v 0) (.c (D.int 0))) (.cons (.v 1) .nil)) []) (.and (.call 2 (.cons (.sub (.v 0) (.c (D.int 1))) (.cons (.v 1) .nil)) []) (.cmp (.sub (.v 0) (.c (D.int 0))) (.one .Lt (.sub (.v 0) (.c (D.int 1)))))))))
  .nil)
/-- are_neighbors(one, other, count); slots 0 one 1 other 2 count -/
def b_are_neighbors_0 : Ss := (.cons (.ret (.or (.cmp (.bin .Mod (.bin .Add (.v 0) (.c (D.int 1))) (.v 2)) (.one .Eq (.v 1))) (.cmp (.bin .Mod (.bin .Add (.v 1) (.c (D.int 1))) (.v 2)) (.one .Eq (.v 0)))))
  .nil)
/-- is_diagonal(value, count); slots 0 value 1 count -/
def b_is_diagonal_0 : Ss := (.cons (.ret (.and (.call 7 (.cons (.v 0) (.cons (.v 1) .nil)) []) (.not (.call 8 (.cons (.sub (.v 0) (.c (D.int 0))) (.cons (.sub (.v 0) (.c (D.int 1))) (.cons (.v 1) .nil))) []))))
  .nil)
/-- cross_polygons(one, other); slots 0 one 1 other -/
def b_cross_polygons_0 : Ss := (.cons (.ret (.or (.cmp (.sub (.v 0) (.c (D.int 0))) (.more .Lt (.sub (.v 1) (.c (D.int 0))) (.more .Lt (.sub (.v 0) (.c (D.int 1))) (.one .Lt (.sub (.v 1) (.c (D.int 1))))))) (.cmp (.sub (.v 1) (.c (D.int 0))) (.more .Lt (.sub (.v 0) (.c (D.int 0))) (.more .Lt (.sub (.v 1) (.c (D.int 1))) (.one .Lt (.sub (.v 0) (.c (D.int 1)))))))))
  .nil)
/-- is_flexagon(value); slots 0 value 1 count 2 at 3 one 4 other 5 item -/
def b_is_flexagon_0 : Ss := (.cons (.ite (.or (.not (.bi .isi (.cons (.v 0) (.cons (.c (D.ty "tuple")) .nil)))) (.cmp (.bi .len (.cons (.v 0) .nil)) (.one .Gt (.bin .Sub (.g 1) (.g 0))))) (.cons (.ret (.c (D.bl false)))
  .nil) .nil)
  (.cons (.asg (.n 1) (.bin .Add (.bi .len (.cons (.v 0) .nil)) (.g 0)))
  (.cons (.ite (.or (.not (.bi .all (.cons (.comp [5] (.call 9 (.cons (.v 5) (.cons (.v 1) .nil)) []) (.n 5) (.e (.v 0)) .none) .nil))) (.not (.call 5 (.cons (.v 0) .nil) []))) (.cons (.ret (.c (D.bl false)))
  .nil) .nil)
  (.cons (.ret (.not (.bi .any (.cons (.comp2 [2, 3, 4] (.call 10 (.cons (.v 3) (.cons (.v 4) .nil)) []) (.t2 (.n 2) (.n 3)) (.enum (.v 0)) .none [4] (.n 4) (.e (.slc (.v 0) (.some (.bin .Add (.v 2) (.c (D.int 1)))) .none)) .none) .nil))))
  .nil))))
/-- check_flexagon(flexagon); slots 0 flexagon -/
def b_check_flexagon_0 : Ss := (.cons (.ite (.not (.call 11 (.cons (.v 0) .nil) [])) (.cons .bad
  .nil) .nil)
  .nil)
/-- is_joined(flexagon, one, other); slots 0 flexagon 1 one 2 other 3 many -/
def b_is_joined_0 : Ss := (.cons (.asg (.n 3) (.bin .Add (.bi .len (.cons (.v 0) .nil)) (.c (D.int 3))))
  (.cons (.ite (.cmp (.bin .Mod (.bin .Sub (.v 1) (.v 2)) (.v 3)) (.one .In (.tup (.cons (.c (D.int 1)) (.cons (.bin .Sub (.v 3) (.c (D.int 1))) .nil))))) (.cons (.ret (.c (D.bl true)))
  .nil) .nil)
  (.cons (.ret (.cmp (.tup (.cons (.bi .min (.cons (.v 1) (.cons (.v 2) .nil))) (.cons (.bi .max (.cons (.v 1) (.cons (.v 2) .nil))) .nil))) (.one .In (.v 0))))
  .nil)))
def b_list_of_0_L0 : Ss := (.cons (.asg (.n 4) (.comp [5] (.v 5) (.n 5) (.rng1 (.v 1)) (.some (.cmp (.v 5) (.one .NotEq (.v 3))))))
  (.cons (.ex (.meth .extend (.v 2) (.cons (.comp [5] (.tup (.cons (.v 3) (.cons (.v 5) .nil))) (.n 5) (.e (.v 4)) (.some (.call 13 (.cons (.v 0) (.cons (.v 3) (.cons (.v 5) .nil))) []))) .nil)))
  .nil))
/-- list_of(flexagon); slots 0 flexagon 1 many 2 found 3 front 4 others 5 behind -/
def b_list_of_0 : Ss := (.cons (.asg (.n 1) (.bin .Add (.bi .len (.cons (.v 0) .nil)) (.c (D.int 3))))
  (.cons (.asg (.n 2) (.lst .nil))
  (.cons (.forS (.n 3) (.rng1 (.v 1)) b_list_of_0_L0)
  (.cons (.ret (.v 2))
  .nil))))
/-- states_of(flexagon); slots 0 flexagon -/
def b_states_of_0 : Ss := (.cons (.ex (.call 12 (.cons (.v 0) .nil) []))
  (.cons (.ret (.call 14 (.cons (.v 0) .nil) []))
  .nil))
/-- pairs_of(flexagon); slots 0 flexagon 1 state -/
def b_pairs_of_0 : Ss := (.cons (.ex (.call 12 (.cons (.v 0) .nil) []))
  (.cons (.ret (.comp [1] (.v 1) (.n 1) (.e (.call 14 (.cons (.v 0) .nil) [])) (.some (.cmp (.sub (.v 1) (.c (D.int 0))) (.one .Lt (.sub (.v 1) (.c (D.int 1))))))))
  .nil))
/-- check_pairs(faces, pairs); slots 0 faces 1 pairs 2 one 3 other 4 pair -/
def b_check_pairs_0 : Ss := (.cons (.ex (.call 6 (.cons (.v 0) .nil) []))
  (.cons (.ite (.or (.not (.call 3 (.cons (.v 1) .nil) [])) (.not (.bi .all (.cons (.comp [4] (.call 4 (.cons (.v 4) (.cons (.c (D.int 2)) .nil)) []) (.n 4) (.e (.v 1)) .none) .nil)))) (.cons .bad
  .nil) .nil)
  (.cons (.ite (.not (.bi .all (.cons (.comp [2, 3] (.and (.call 2 (.cons (.v 2) (.cons (.v 0) .nil)) []) (.and (.call 2 (.cons (.v 3) (.cons (.v 0) .nil)) []) (.cmp (.v 2) (.one .NotEq (.v 3))))) (.t2 (.n 2) (.n 3)) (.e (.v 1)) .none) .nil))) (.cons .bad
  .nil) .nil)
  .nil)))
/-- cross_meets(one, other); slots 0 one 1 other 2 low 3 high 4 face -/
def b_cross_meets_0 : Ss := (.cons (.ite (.bi .any (.cons (.comp [4] (.cmp (.v 4) (.one .In (.v 1))) (.n 4) (.e (.v 0)) .none) .nil)) (.cons (.ret (.c (D.bl false)))
  .nil) .nil)
  (.cons (.asg (.t2 (.n 2) (.n 3)) (.tup (.cons (.bi .min (.cons (.v 0) .nil)) (.cons (.bi .max (.cons (.v 0) .nil)) .nil))))
  (.cons (.ret (.cmp (.bi .len (.cons (.comp [4] (.v 4) (.n 4) (.e (.v 1)) (.some (.cmp (.v 2) (.more .Lt (.v 4) (.one .Lt (.v 3)))))) .nil)) (.one .Eq (.c (D.int 1)))))
  .nil)))
def b_diagonals_for_0_L0 : Ss := (.cons (.ite (.not (.bi .any (.cons (.comp [5] (.call 18 (.cons (.tup (.cons (.v 3) (.cons (.v 4) .nil))) (.cons (.v 5) .nil)) []) (.n 5) (.e (.v 2)) .none) .nil))) (.cons (.ex (.meth .append (.v 2) (.cons (.tup (.cons (.v 3) (.cons (.v 4) .nil))) .nil)))
  .nil) .nil)
  .nil)
def b_diagonals_for_0_L1 : Ss := (.cons (.forS (.n 4) (.rng2 (.bin .Add (.v 3) (.c (D.int 2))) (.v 0)) b_diagonals_for_0_L0)
  .nil)
/-- diagonals_for(faces, pairs); slots 0 faces 1 pairs 2 found 3 low 4 high 5 pair -/
def b_diagonals_for_0 : Ss := (.cons (.asg (.n 2) (.comp [5] (.tup (.cons (.bi .min (.cons (.v 5) .nil)) (.cons (.bi .max (.cons (.v 5) .nil)) .nil))) (.n 5) (.e (.v 1)) .none))
  (.cons (.forS (.n 3) (.rng1 (.v 0)) b_diagonals_for_0_L1)
  (.cons (.ret (.bi .tuple (.cons (.bi .sortset (.cons (.comp [5] (.v 5) (.n 5) (.e (.v 2)) (.some (.cmp (.c (D.int 1)) (.more .Lt (.bin .Sub (.sub (.v 5) (.c (D.int 1))) (.sub (.v 5) (.c (D.int 0)))) (.one .Lt (.bin .Sub (.v 0) (.c (D.int 1)))))))) .nil)) .nil)))
  .nil)))
/-- flexagon_joining(faces, pairs); slots 0 faces 1 pairs 2 one 3 other -/
def b_flexagon_joining_0 : Ss := (.cons (.ex (.call 17 (.cons (.v 0) (.cons (.v 1) .nil)) []))
  (.cons (.ite (.bi .any (.cons (.comp2 [2, 3] (.call 18 (.cons (.v 2) (.cons (.v 3) .nil)) []) (.n 2) (.e (.v 1)) .none [3] (.n 3) (.e (.v 1)) .none) .nil)) (.cons (.ret (.c D.non))
  .nil) .nil)
  (.cons (.ret (.call 19 (.cons (.v 0) (.cons (.v 1) .nil)) []))
  .nil)))
/-- is_joining(faces, pairs, value); slots 0 faces 1 pairs 2 value 3 one 4 other -/
def b_is_joining_0 : Ss := (.cons (.ex (.call 17 (.cons (.v 0) (.cons (.v 1) .nil)) []))
  (.cons (.ite (.or (.not (.call 11 (.cons (.v 2) .nil) [])) (.cmp (.bin .Add (.bi .len (.cons (.v 2) .nil)) (.c (D.int 3))) (.one .NotEq (.v 0)))) (.cons (.ret (.c (D.bl false)))
  .nil) .nil)
  (.cons (.ret (.bi .all (.cons (.comp [3, 4] (.call 13 (.cons (.v 2) (.cons (.v 3) (.cons (.v 4) .nil))) []) (.t2 (.n 3) (.n 4)) (.e (.v 1)) .none) .nil)))
  .nil)))
/-- _law_cell(script, k); slots 0 script 1 k -/
def b_law_cell_0 : Ss := (.cons (.ret (.ife (.cmp (.v 1) (.one .Lt (.bi .len (.cons (.v 0) .nil)))) (.sub (.v 0) (.v 1)) (.bin .Add (.bin .Mult (.c (D.int 13399)) (.v 1)) (.bin .Mod (.bi .int (.cons (.bi .sum (.cons (.slc (.v 0) .none (.some (.c (D.int 1)))) .nil)) .nil)) (.c (D.int 1000003))))))
  .nil)
/-- _law_box(great); slots 0 great -/
def b_law_box_0 : Ss := (.cons (.ret (.lst (.cons (.bi .abs (.cons (.v 0) .nil)) (.cons (.cmp (.bi .abs (.cons (.v 0) .nil)) (.one .GtE (.bin .Pow (.c (D.int 10)) (.c (D.int 18))))) (.cons (.bin .Mod (.bi .int (.cons (.bi .abs (.cons (.v 0) .nil)) .nil)) (.c (D.int 2147483629))) (.cons (.c (D.int 0)) .nil))))))
  .nil)
/-- _law_take(box, many); slots 0 box 1 many 2 mixed 3 digit -/
def b_law_take_0 : Ss := (.cons (.ite (.and (.sub (.v 0) (.c (D.int 1))) (.cmp (.sub (.v 0) (.c (D.int 0))) (.one .Gt (.c (D.int 0))))) (.cons (.asg (.n 3) (.bin .Mod (.bi .int (.cons (.sub (.v 0) (.c (D.int 0))) .nil)) (.v 1)))
  (.cons (.sset (.v 0) (.c (D.int 0)) (.bin .FloorDiv (.sub (.v 0) (.c (D.int 0))) (.v 1)))
  (.cons (.ret (.v 3))
  .nil))) .nil)
  (.cons (.sset (.v 0) (.c (D.int 3)) (.bin .Add (.sub (.v 0) (.c (D.int 3))) (.c (D.int 1))))
  (.cons (.asg (.n 2) (.bin .Mod (.bi .int (.cons (.bin .Pow (.bin .Add (.bin .Add (.sub (.v 0) (.c (D.int 2))) (.bin .Mult (.c (D.int 15485867)) (.sub (.v 0) (.c (D.int 3))))) (.c (D.int 179425033))) (.c (D.int 5))) .nil)) (.c (D.int 2147483647))))
  (.cons (.ret (.bin .Mod (.bi .int (.cons (.bin .FloorDiv (.bin .Mod (.bi .int (.cons (.bin .Pow (.bin .Add (.bin .Mult (.v 2) (.c (D.int 48271))) (.bin .Mult (.c (D.int 7919)) (.sub (.v 0) (.c (D.int 3))))) (.c (D.int 3))) .nil)) (.c (D.int 2147483587))) (.c (D.int 64))) .nil)) (.v 1)))
  .nil))))
/-- _law_same(given, due); slots 0 given 1 due 2 k -/
def b_law_same_0 : Ss := (.cons (.ite (.or (.cmp (.v 1) (.one .Is (.c D.non))) (.bi .isi (.cons (.v 1) (.cons (.c (D.ty "bool")) .nil)))) (.cons (.ret (.ife (.cmp (.v 1) (.one .Is (.c D.non))) (.cmp (.v 0) (.one .Is (.c D.non))) (.and (.bi .isi (.cons (.v 0) (.cons (.c (D.ty "bool")) .nil))) (.cmp (.cmp (.v 0) (.one .Is (.c (D.bl true)))) (.one .Eq (.cmp (.v 1) (.one .Is (.c (D.bl true)))))))))
  .nil) .nil)
  (.cons (.ite (.bi .isi (.cons (.v 1) (.cons (.c (D.ty "int")) .nil))) (.cons (.ret (.and (.bi .isi (.cons (.v 0) (.cons (.c (D.ty "int")) .nil))) (.and (.not (.bi .isi (.cons (.v 0) (.cons (.c (D.ty "bool")) .nil)))) (.cmp (.bin .Sub (.bi .int (.cons (.v 0) .nil)) (.v 1)) (.one .Eq (.c (D.int 0)))))))
  .nil) .nil)
  (.cons (.ite (.bi .isi (.cons (.v 1) (.cons (.c (D.ty "str")) .nil))) (.cons (.ret (.and (.bi .isi (.cons (.v 0) (.cons (.c (D.ty "str")) .nil))) (.cmp (.v 0) (.one .Eq (.v 1)))))
  .nil) .nil)
  (.cons (.ite (.or (.cmp (.bi .isi (.cons (.v 0) (.cons (.c (D.ty "list")) .nil))) (.one .NotEq (.bi .isi (.cons (.v 1) (.cons (.c (D.ty "list")) .nil))))) (.cmp (.bi .isi (.cons (.v 0) (.cons (.c (D.ty "tuple")) .nil))) (.one .NotEq (.bi .isi (.cons (.v 1) (.cons (.c (D.ty "tuple")) .nil)))))) (.cons (.ret (.c (D.bl false)))
  .nil) .nil)
  (.cons .bad
  .nil)))))
/-- _law_same(given, due); slots 0 given 1 due 2 k -/
def b_law_same_1 : Ss := (.cons (.ite (.or (.cmp (.v 1) (.one .Is (.c D.non))) (.bi .isi (.cons (.v 1) (.cons (.c (D.ty "bool")) .nil)))) (.cons (.ret (.ife (.cmp (.v 1) (.one .Is (.c D.non))) (.cmp (.v 0) (.one .Is (.c D.non))) (.and (.bi .isi (.cons (.v 0) (.cons (.c (D.ty "bool")) .nil))) (.cmp (.cmp (.v 0) (.one .Is (.c (D.bl true)))) (.one .Eq (.cmp (.v 1) (.one .Is (.c (D.bl true)))))))))
  .nil) .nil)
  (.cons (.ite (.bi .isi (.cons (.v 1) (.cons (.c (D.ty "int")) .nil))) (.cons (.ret (.and (.bi .isi (.cons (.v 0) (.cons (.c (D.ty "int")) .nil))) (.and (.not (.bi .isi (.cons (.v 0) (.cons (.c (D.ty "bool")) .nil)))) (.cmp (.bin .Sub (.bi .int (.cons (.v 0) .nil)) (.v 1)) (.one .Eq (.c (D.int 0)))))))
  .nil) .nil)
  (.cons (.ite (.bi .isi (.cons (.v 1) (.cons (.c (D.ty "str")) .nil))) (.cons (.ret (.and (.bi .isi (.cons (.v 0) (.cons (.c (D.ty "str")) .nil))) (.cmp (.v 0) (.one .Eq (.v 1)))))
  .nil) .nil)
  (.cons (.ite (.or (.cmp (.bi .isi (.cons (.v 0) (.cons (.c (D.ty "list")) .nil))) (.one .NotEq (.bi .isi (.cons (.v 1) (.cons (.c (D.ty "list")) .nil))))) (.cmp (.bi .isi (.cons (.v 0) (.cons (.c (D.ty "tuple")) .nil))) (.one .NotEq (.bi .isi (.cons (.v 1) (.cons (.c (D.ty "tuple")) .nil)))))) (.cons (.ret (.c (D.bl false)))
  .nil) .nil)
  (.cons (.ret (.and (.cmp (.bi .len (.cons (.v 0) .nil)) (.one .Eq (.bi .len (.cons (.v 1) .nil)))) (.cmp (.comp [2] (.v 2) (.n 2) (.rng1 (.bi .len (.cons (.v 1) .nil))) (.some (.not (.call 25 (.cons (.sub (.v 0) (.v 2)) (.cons (.sub (.v 1) (.v 2)) .nil)) [])))) (.one .Eq (.lst .nil)))))
  .nil)))))
/-- _law_same(given, due); slots 0 given 1 due 2 k -/
def b_law_same_2 : Ss := (.cons (.ite (.or (.cmp (.v 1) (.one .Is (.c D.non))) (.bi .isi (.cons (.v 1) (.cons (.c (D.ty "bool")) .nil)))) (.cons (.ret (.ife (.cmp (.v 1) (.one .Is (.c D.non))) (.cmp (.v 0) (.one .Is (.c D.non))) (.and (.bi .isi (.cons (.v 0) (.cons (.c (D.ty "bool")) .nil))) (.cmp (.cmp (.v 0) (.one .Is (.c (D.bl true)))) (.one .Eq (.cmp (.v 1) (.one .Is (.c (D.bl true)))))))))
  .nil) .nil)
  (.cons (.ite (.bi .isi (.cons (.v 1) (.cons (.c (D.ty "int")) .nil))) (.cons (.ret (.and (.bi .isi (.cons (.v 0) (.cons (.c (D.ty "int")) .nil))) (.and (.not (.bi .isi (.cons (.v 0) (.cons (.c (D.ty "bool")) .nil)))) (.cmp (.bin .Sub (.bi .int (.cons (.v 0) .nil)) (.v 1)) (.one .Eq (.c (D.int 0)))))))
  .nil) .nil)
  (.cons (.ite (.bi .isi (.cons (.v 1) (.cons (.c (D.ty "str")) .nil))) (.cons (.ret (.and (.bi .isi (.cons (.v 0) (.cons (.c (D.ty "str")) .nil))) (.cmp (.v 0) (.one .Eq (.v 1)))))
  .nil) .nil)
  (.cons (.ite (.or (.cmp (.bi .isi (.cons (.v 0) (.cons (.c (D.ty "list")) .nil))) (.one .NotEq (.bi .isi (.cons (.v 1) (.cons (.c (D.ty "list")) .nil))))) (.cmp (.bi .isi (.cons (.v 0) (.cons (.c (D.ty "tuple")) .nil))) (.one .NotEq (.bi .isi (.cons (.v 1) (.cons (.c (D.ty "tuple")) .nil)))))) (.cons (.ret (.c (D.bl false)))
  .nil) .nil)
  (.cons (.ret (.and (.cmp (.bi .len (.cons (.v 0) .nil)) (.one .Eq (.bi .len (.cons (.v 1) .nil)))) (.cmp (.comp [2] (.v 2) (.n 2) (.rng1 (.bi .len (.cons (.v 1) .nil))) (.some (.not (.call 26 (.cons (.sub (.v 0) (.v 2)) (.cons (.sub (.v 1) (.v 2)) .nil)) [])))) (.one .Eq (.lst .nil)))))
  .nil)))))
/-- _law_same(given, due); slots 0 given 1 due 2 k -/
def b_law_same_3 : Ss := (.cons (.ite (.or (.cmp (.v 1) (.one .Is (.c D.non))) (.bi .isi (.cons (.v 1) (.cons (.c (D.ty "bool")) .nil)))) (.cons (.ret (.ife (.cmp (.v 1) (.one .Is (.c D.non))) (.cmp (.v 0) (.one .Is (.c D.non))) (.and (.bi .isi (.cons (.v 0) (.cons (.c (D.ty "bool")) .nil))) (.cmp (.cmp (.v 0) (.one .Is (.c (D.bl true)))) (.one .Eq (.cmp (.v 1) (.one .Is (.c (D.bl true)))))))))
  .nil) .nil)
  (.cons (.ite (.bi .isi (.cons (.v 1) (.cons (.c (D.ty "int")) .nil))) (.cons (.ret (.and (.bi .isi (.cons (.v 0) (.cons (.c (D.ty "int")) .nil))) (.and (.not (.bi .isi (.cons (.v 0) (.cons (.c (D.ty "bool")) .nil)))) (.cmp (.bin .Sub (.bi .int (.cons (.v 0) .nil)) (.v 1)) (.one .Eq (.c (D.int 0)))))))
  .nil) .nil)
  (.cons (.ite (.bi .isi (.cons (.v 1) (.cons (.c (D.ty "str")) .nil))) (.cons (.ret (.and (.bi .isi (.cons (.v 0) (.cons (.c (D.ty "str")) .nil))) (.cmp (.v 0) (.one .Eq (.v 1)))))
  .nil) .nil)
  (.cons (.ite (.or (.cmp (.bi .isi (.cons (.v 0) (.cons (.c (D.ty "list")) .nil))) (.one .NotEq (.bi .isi (.cons (.v 1) (.cons (.c (D.ty "list")) .nil))))) (.cmp (.bi .isi (.cons (.v 0) (.cons (.c (D.ty "tuple")) .nil))) (.one .NotEq (.bi .isi (.cons (.v 1) (.cons (.c (D.ty "tuple")) .nil)))))) (.cons (.ret (.c (D.bl false)))
  .nil) .nil)
  (.cons (.ret (.and (.cmp (.bi .len (.cons (.v 0) .nil)) (.one .Eq (.bi .len (.cons (.v 1) .nil)))) (.cmp (.comp [2] (.v 2) (.n 2) (.rng1 (.bi .len (.cons (.v 1) .nil))) (.some (.not (.call 27 (.cons (.sub (.v 0) (.v 2)) (.cons (.sub (.v 1) (.v 2)) .nil)) [])))) (.one .Eq (.lst .nil)))))
  .nil)))))
def b_law_flexagon_0_L0 : Ss := (.cons (.asg (.t2 (.n 7) (.n 8)) (.meth .pop (.v 4) .nil))
  (.cons (.ite (.cmp (.c (D.int 1)) (.more .Lt (.bin .Sub (.v 8) (.v 7)) (.one .Lt (.bin .Sub (.v 1) (.c (D.int 1)))))) (.cons (.ex (.meth .append (.v 3) (.cons (.tup (.cons (.v 7) (.cons (.v 8) .nil))) .nil)))
  .nil) .nil)
  (.cons (.ite (.cmp (.bin .Sub (.v 8) (.v 7)) (.one .Gt (.c (D.int 1)))) (.cons (.asg (.n 9) (.bin .Add (.bin .Add (.v 7) (.c (D.int 1))) (.call 24 (.cons (.v 0) (.cons (.bin .Sub (.bin .Sub (.v 8) (.v 7)) (.c (D.int 1))) .nil)) [])))
  (.cons (.ite (.cmp (.v 2) (.one .Eq (.c (D.int 1)))) (.cons (.asg (.n 9) (.bin .FloorDiv (.bin .Add (.v 7) (.v 8)) (.c (D.int 2))))
  .nil) .nil)
  (.cons (.ite (.cmp (.v 2) (.one .Eq (.c (D.int 2)))) (.cons (.asg (.n 9) (.ife (.cmp (.call 24 (.cons (.v 0) (.cons (.c (D.int 2)) .nil)) []) (.one .Eq (.c (D.int 0)))) (.bin .Add (.v 7) (.c (D.int 1))) (.bin .Sub (.v 8) (.c (D.int 1)))))
  .nil) .nil)
  (.cons (.asg (.n 4) (.bin .Add (.v 4) (.lst (.cons (.tup (.cons (.v 7) (.cons (.v 9) .nil))) (.cons (.tup (.cons (.v 9) (.cons (.v 8) .nil))) .nil)))))
  .nil)))) .nil)
  .nil)))
/-- _law_flexagon(box, many); slots 0 box 1 many 2 way 3 found 4 left 5 turn 6 pairs 7 first 8 last 9 third 10 one 11 other -/
def b_law_flexagon_0 : Ss := (.cons (.asg (.t3 (.n 2) (.n 3) (.n 4)) (.tup (.cons (.call 24 (.cons (.v 0) (.cons (.c (D.int 3)) .nil)) []) (.cons (.lst .nil) (.cons (.lst (.cons (.tup (.cons (.c (D.int 0)) (.cons (.bin .Sub (.v 1) (.c (D.int 1))) .nil))) .nil)) .nil)))))
  (.cons (.whileS (.cmp (.v 4) (.one .NotEq (.lst .nil))) b_law_flexagon_0_L0)
  (.cons (.asg (.n 5) (.call 24 (.cons (.v 0) (.cons (.v 1) .nil)) []))
  (.cons (.asg (.n 6) (.comp [10, 11] (.bi .sorted (.cons (.lst (.cons (.bin .Mod (.bin .Add (.v 10) (.v 5)) (.v 1)) (.cons (.bin .Mod (.bin .Add (.v 11) (.v 5)) (.v 1)) .nil))) .nil)) (.t2 (.n 10) (.n 11)) (.e (.v 3)) .none))
  (.cons (.ret (.bi .tuple (.cons (.bi .sorted (.cons (.comp [10, 11] (.tup (.cons (.v 10) (.cons (.v 11) .nil))) (.t2 (.n 10) (.n 11)) (.e (.v 6)) .none) .nil)) .nil)))
  .nil)))))
/-- _law_joined(flexagon, one, other); slots 0 flexagon 1 one 2 other 3 many -/
def b_law_joined_0 : Ss := (.cons (.asg (.n 3) (.bin .Add (.bi .len (.cons (.v 0) .nil)) (.c (D.int 3))))
  (.cons (.ite (.cmp (.bin .Mod (.bin .Sub (.v 1) (.v 2)) (.v 3)) (.one .In (.tup (.cons (.c (D.int 1)) (.cons (.bin .Sub (.v 3) (.c (D.int 1))) .nil))))) (.cons (.ret (.c (D.bl true)))
  .nil) .nil)
  (.cons (.ret (.cmp (.tup (.cons (.bi .min (.cons (.v 1) (.cons (.v 2) .nil))) (.cons (.bi .max (.cons (.v 1) (.cons (.v 2) .nil))) .nil))) (.one .In (.v 0))))
  .nil)))
def b_law_right_0_L0 : Ss := (.cons (.ite (.or (.not (.cmp (.c (D.int 0)) (.more .LtE (.v 2) (.more .Lt (.v 3) (.one .Lt (.v 1)))))) (.cmp (.bin .Mod (.bin .Sub (.v 3) (.v 2)) (.v 1)) (.one .In (.tup (.cons (.c (D.int 1)) (.cons (.bin .Sub (.v 1) (.c (D.int 1))) .nil)))))) (.cons (.ret (.c (D.bl false)))
  .nil) .nil)
  (.cons (.ite (.cmp (.comp [4] (.v 4) (.n 4) (.e (.v 0)) (.some (.cmp (.v 2) (.more .Lt (.sub (.v 4) (.c (D.int 0))) (.more .Lt (.v 3) (.one .Lt (.sub (.v 4) (.c (D.int 1))))))))) (.one .NotEq (.lst .nil))) (.cons (.ret (.c (D.bl false)))
  .nil) .nil)
  .nil))
/-- _law_right(flexagon, many); slots 0 flexagon 1 many 2 one 3 other 4 pair -/
def b_law_right_0 : Ss := (.cons (.ite (.or (.not (.bi .isi (.cons (.v 0) (.cons (.c (D.ty "tuple")) .nil)))) (.or (.cmp (.bi .len (.cons (.v 0) .nil)) (.one .NotEq (.bin .Sub (.v 1) (.c (D.int 3))))) (.cmp (.bi .list (.cons (.v 0) .nil)) (.one .NotEq (.bi .sortset (.cons (.v 0) .nil)))))) (.cons (.ret (.c (D.bl false)))
  .nil) .nil)
  (.cons (.forS (.t2 (.n 2) (.n 3)) (.e (.v 0)) b_law_right_0_L0)
  (.cons (.ret (.c (D.bl true)))
  .nil)))
/-- _law_crosses(one, other); slots 0 one 1 other 2 low 3 high 4 inside 5 outside 6 face -/
def b_law_crosses_0 : Ss := (.cons (.asg (.t2 (.n 2) (.n 3)) (.tup (.cons (.bi .min (.cons (.v 0) .nil)) (.cons (.bi .max (.cons (.v 0) .nil)) .nil))))
  (.cons (.asg (.n 4) (.comp [6] (.v 6) (.n 6) (.e (.v 1)) (.some (.cmp (.v 2) (.more .Lt (.v 6) (.one .Lt (.v 3)))))))
  (.cons (.asg (.n 5) (.comp [6] (.v 6) (.n 6) (.e (.v 1)) (.some (.or (.cmp (.v 6) (.one .Lt (.v 2))) (.cmp (.v 6) (.one .Gt (.v 3)))))))
  (.cons (.ret (.and (.cmp (.bi .len (.cons (.v 4) .nil)) (.one .Eq (.c (D.int 1)))) (.cmp (.bi .len (.cons (.v 5) .nil)) (.one .Eq (.c (D.int 1))))))
  .nil))))
def b_law_pairs_0_L0 : Ss := (.cons (.asg (.n 5) (.call 24 (.cons (.v 0) (.cons (.v 2) .nil)) []))
  (.cons (.asg (.n 6) (.tup (.cons (.v 5) (.cons (.bin .Mod (.bin .Add (.v 5) (.c (D.int 1))) (.v 2)) .nil))))
  (.cons (.ite (.and (.cmp (.bi .len (.cons (.v 1) .nil)) (.one .Gt (.c (D.int 0)))) (.cmp (.call 24 (.cons (.v 0) (.cons (.c (D.int 4)) .nil)) []) (.one .Gt (.c (D.int 0))))) (.cons (.asg (.n 6) (.sub (.v 1) (.call 24 (.cons (.v 0) (.cons (.bi .len (.cons (.v 1) .nil)) .nil)) [])))
  .nil) .nil)
  (.cons (.ite (.cmp (.call 24 (.cons (.v 0) (.cons (.c (D.int 7)) .nil)) []) (.one .Eq (.c (D.int 0)))) (.cons (.asg (.n 6) (.tup (.cons (.v 5) (.cons (.bin .Mod (.bin .Add (.bin .Add (.v 5) (.c (D.int 1))) (.call 24 (.cons (.v 0) (.cons (.bin .Sub (.v 2) (.c (D.int 1))) .nil)) [])) (.v 2)) .nil))))
  .nil) .nil)
  (.cons (.ex (.meth .append (.v 3) (.cons (.ife (.cmp (.call 24 (.cons (.v 0) (.cons (.c (D.int 2)) .nil)) []) (.one .Eq (.c (D.int 0)))) (.v 6) (.rev (.v 6))) .nil)))
  .nil)))))
/-- _law_pairs(box, flexagon); slots 0 box 1 flexagon 2 many 3 found 4 turn 5 at 6 pair -/
def b_law_pairs_0 : Ss := (.cons (.asg (.t2 (.n 2) (.n 3)) (.tup (.cons (.bin .Add (.bi .len (.cons (.v 1) .nil)) (.c (D.int 3))) (.cons (.lst .nil) .nil))))
  (.cons (.forS (.n 4) (.rng1 (.call 24 (.cons (.v 0) (.cons (.c (D.int 8)) .nil)) [])) b_law_pairs_0_L0)
  (.cons (.ret (.v 3))
  .nil)))
def b_law_0_L0 : Ss := (.cons (.asg (.n 9) (.bin .Add (.v 9) (.comp [12] (.tup (.cons (.v 10) (.cons (.v 12) .nil))) (.n 12) (.rng2 (.bin .Add (.v 10) (.c (D.int 1))) (.v 4)) (.some (.call 30 (.cons (.v 8) (.cons (.v 10) (.cons (.v 12) .nil))) [])))))
  .nil)
def b_law_0_L1 : Ss := (.cons (.asg (.n 6) (.call 33 (.cons (.v 2) (.cons (.v 3) .nil)) []))
  (.cons (.asg (.n 7) (.comp [11] (.v 11) (.n 11) (.e (.v 6)) (.some (.cmp (.comp [12] (.v 12) (.n 12) (.e (.v 6)) (.some (.call 32 (.cons (.v 11) (.cons (.v 12) .nil)) []))) (.one .NotEq (.lst .nil))))))
  (.cons (.asg (.n 8) (.call 20 (.cons (.v 4) (.cons (.v 6) .nil)) []))
  (.cons (.ite (.not (.call 28 (.cons (.call 21 (.cons (.v 4) (.cons (.v 6) (.cons (.v 3) .nil))) []) (.cons (.cmp (.comp [11] (.v 11) (.n 11) (.e (.v 6)) (.some (.not (.call 30 (.cons (.v 3) (.cons (.sub (.v 11) (.c (D.int 0))) (.cons (.sub (.v 11) (.c (D.int 1))) .nil))) [])))) (.one .Eq (.lst .nil))) .nil)) [])) (.cons (.ret (.c (D.bl false)))
  .nil) .nil)
  (.cons (.ite (.cmp (.v 7) (.one .NotEq (.lst .nil))) (.cons (.ite (.cmp (.v 8) (.one .IsNot (.c D.non))) (.cons (.ret (.c (D.bl false)))
  .nil) .nil)
  (.cons .cnt
  .nil)) .nil)
  (.cons (.ite (.or (.not (.call 31 (.cons (.v 8) (.cons (.v 4) .nil)) [])) (.cmp (.comp [11] (.v 11) (.n 11) (.e (.v 6)) (.some (.not (.call 30 (.cons (.v 8) (.cons (.sub (.v 11) (.c (D.int 0))) (.cons (.sub (.v 11) (.c (D.int 1))) .nil))) [])))) (.one .NotEq (.lst .nil)))) (.cons (.ret (.c (D.bl false)))
  .nil) .nil)
  (.cons (.ite (.not (.call 28 (.cons (.lst (.cons (.call 21 (.cons (.v 4) (.cons (.v 6) (.cons (.v 8) .nil))) []) (.cons (.call 21 (.cons (.v 6) (.cons (.v 8) (.cons (.v 4) .nil))) [2, 0, 1]) .nil))) (.cons (.lst (.cons (.c (D.bl true)) (.cons (.c (D.bl true)) .nil))) .nil)) [])) (.cons (.ret (.c (D.bl false)))
  .nil) .nil)
  (.cons (.asg (.n 9) (.lst .nil))
  (.cons (.forS (.n 10) (.rng1 (.v 4)) b_law_0_L0)
  (.cons (.ite (.or (.not (.call 28 (.cons (.lst (.cons (.call 16 (.cons (.v 8) .nil) []) (.cons (.bi .len (.cons (.call 15 (.cons (.v 8) .nil) []) .nil)) .nil))) (.cons (.lst (.cons (.v 9) (.cons (.bin .Mult (.c (D.int 2)) (.bi .len (.cons (.v 9) .nil))) .nil))) .nil)) [])) (.cmp (.bi .len (.cons (.v 9) .nil)) (.one .NotEq (.bin .Sub (.bin .Mult (.c (D.int 2)) (.v 4)) (.c (D.int 3)))))) (.cons (.ret (.c (D.bl false)))
  .nil) .nil)
  .nil))))))))))
def b_law_0_L2 : Ss := (.cons (.asg (.n 2) (.call 23 (.cons (.call 22 (.cons (.v 0) (.cons (.v 1) .nil)) []) .nil) []))
  (.cons (.asg (.n 3) (.call 29 (.cons (.v 2) (.cons (.bin .Add (.c (D.int 3)) (.call 24 (.cons (.v 2) (.cons (.c (D.int 22)) .nil)) [])) .nil)) []))
  (.cons (.asg (.n 4) (.bin .Add (.bi .len (.cons (.v 3) .nil)) (.c (D.int 3))))
  (.cons (.forS (.n 5) (.rng1 (.c (D.int 3))) b_law_0_L1)
  .nil))))
/-- law(script); slots 0 script 1 k 2 box 3 flexagon 4 many 5 turn 6 pairs 7 bad 8 told 9 joined 10 one 11 pair 12 other -/
def b_law_0 : Ss := (.cons (.forS (.n 1) (.rng1 (.bi .max (.cons (.c (D.int 2)) (.cons (.bi .min (.cons (.c (D.int 3)) (.cons (.bi .len (.cons (.v 0) .nil)) .nil))) .nil)))) b_law_0_L2)
  (.cons (.ret (.c (D.bl true)))
  .nil))
def gs : List D := [(D.int 3), (D.int 24)]
@[simp] theorem gs_0 : gs[0]? = some (D.int 3) := (rfl)
@[simp] theorem gs_1 : gs[1]? = some (D.int 24) := (rfl)
def l_0 : List Fn := ([] : List Fn)
def f_is_integer_0 : Fn := mkFn gs l_0 1 0 b_is_integer_0
@[simp] theorem k_is_integer_0 (rs : List R) (e : Fx.Env) : callF f_is_integer_0 rs e = call0 f_is_integer_0.f rs e := callF_0 (by rfl)
def l_1 : List Fn := l_0 ++ [f_is_integer_0]
def f_is_within_0 : Fn := mkFn gs l_1 3 0 b_is_within_0
@[simp] theorem k_is_within_0 (rs : List R) (e : Fx.Env) : callF f_is_within_0 rs e = call0 f_is_within_0.f rs e := callF_0 (by rfl)
@[simp] theorem g_1_0 : l_1[0]? = some f_is_integer_0 := (rfl)
def l_2 : List Fn := l_1 ++ [f_is_within_0]
def f_is_index_0 : Fn := mkFn gs l_2 2 0 b_is_index_0
@[simp] theorem k_is_index_0 (rs : List R) (e : Fx.Env) : callF f_is_index_0 rs e = call0 f_is_index_0.f rs e := callF_0 (by rfl)
@[simp] theorem g_2_0 : l_2[0]? = some f_is_integer_0 := (rfl)
def l_3 : List Fn := l_2 ++ [f_is_index_0]
def f_is_list_0 : Fn := mkFn gs l_3 1 0 b_is_list_0
@[simp] theorem k_is_list_0 (rs : List R) (e : Fx.Env) : callF f_is_list_0 rs e = call0 f_is_list_0.f rs e := callF_0 (by rfl)
def l_4 : List Fn := l_3 ++ [f_is_list_0]
def f_is_tuple_0 : Fn := mkFn gs l_4 2 0 b_is_tuple_0
@[simp] theorem k_is_tuple_0 (rs : List R) (e : Fx.Env) : callF f_is_tuple_0 rs e = call0 f_is_tuple_0.f rs e := callF_0 (by rfl)
def l_5 : List Fn := l_4 ++ [f_is_tuple_0]
def f_ascends_0 : Fn := mkFn gs l_5 3 0 b_ascends_0
@[simp] theorem k_ascends_0 (rs : List R) (e : Fx.Env) : callF f_ascends_0 rs e = call0 f_ascends_0.f rs e := callF_0 (by rfl)
def l_6 : List Fn := l_5 ++ [f_ascends_0]
def f_check_faces_0 : Fn := mkFn gs l_6 1 0 b_check_faces_0
@[simp] theorem k_check_faces_0 (rs : List R) (e : Fx.Env) : callF f_check_faces_0 rs e = call0 f_check_faces_0.f rs e := callF_0 (by rfl)
@[simp] theorem g_6_1 : l_6[1]? = some f_is_within_0 := (rfl)
def l_7 : List Fn := l_6 ++ [f_check_faces_0]
def f_is_pair_0 : Fn := mkFn gs l_7 2 0 b_is_pair_0
@[simp] theorem k_is_pair_0 (rs : List R) (e : Fx.Env) : callF f_is_pair_0 rs e = call0 f_is_pair_0.f rs e := callF_0 (by rfl)
@[simp] theorem g_7_2 : l_7[2]? = some f_is_index_0 := (rfl)
@[simp] theorem g_7_4 : l_7[4]? = some f_is_tuple_0 := (rfl)
def l_8 : List Fn := l_7 ++ [f_is_pair_0]
def f_are_neighbors_0 : Fn := mkFn gs l_8 3 0 b_are_neighbors_0
@[simp] theorem k_are_neighbors_0 (rs : List R) (e : Fx.Env) : callF f_are_neighbors_0 rs e = call0 f_are_neighbors_0.f rs e := callF_0 (by rfl)
def l_9 : List Fn := l_8 ++ [f_are_neighbors_0]
def f_is_diagonal_0 : Fn := mkFn gs l_9 2 0 b_is_diagonal_0
@[simp] theorem k_is_diagonal_0 (rs : List R) (e : Fx.Env) : callF f_is_diagonal_0 rs e = call0 f_is_diagonal_0.f rs e := callF_0 (by rfl)
@[simp] theorem g_9_7 : l_9[7]? = some f_is_pair_0 := (rfl)
@[simp] theorem g_9_8 : l_9[8]? = some f_are_neighbors_0 := (rfl)
def l_10 : List Fn := l_9 ++ [f_is_diagonal_0]
def f_cross_polygons_0 : Fn := mkFn gs l_10 2 0 b_cross_polygons_0
@[simp] theorem k_cross_polygons_0 (rs : List R) (e : Fx.Env) : callF f_cross_polygons_0 rs e = call0 f_cross_polygons_0.f rs e := callF_0 (by rfl)
def l_11 : List Fn := l_10 ++ [f_cross_polygons_0]
def f_is_flexagon_0 : Fn := mkFn gs l_11 6 0 b_is_flexagon_0
@[simp] theorem k_is_flexagon_0 (rs : List R) (e : Fx.Env) : callF f_is_flexagon_0 rs e = call0 f_is_flexagon_0.f rs e := callF_0 (by rfl)
@[simp] theorem g_11_5 : l_11[5]? = some f_ascends_0 := (rfl)
@[simp] theorem g_11_9 : l_11[9]? = some f_is_diagonal_0 := (rfl)
@[simp] theorem g_11_10 : l_11[10]? = some f_cross_polygons_0 := (rfl)
def l_12 : List Fn := l_11 ++ [f_is_flexagon_0]
def f_check_flexagon_0 : Fn := mkFn gs l_12 1 0 b_check_flexagon_0
@[simp] theorem k_check_flexagon_0 (rs : List R) (e : Fx.Env) : callF f_check_flexagon_0 rs e = call0 f_check_flexagon_0.f rs e := callF_0 (by rfl)
@[simp] theorem g_12_11 : l_12[11]? = some f_is_flexagon_0 := (rfl)
def l_13 : List Fn := l_12 ++ [f_check_flexagon_0]
def f_is_joined_0 : Fn := mkFn gs l_13 4 0 b_is_joined_0
@[simp] theorem k_is_joined_0 (rs : List R) (e : Fx.Env) : callF f_is_joined_0 rs e = call0 f_is_joined_0.f rs e := callF_0 (by rfl)
def l_14 : List Fn := l_13 ++ [f_is_joined_0]
def f_list_of_0 : Fn := mkFn gs l_14 6 0 b_list_of_0
@[simp] theorem k_list_of_0 (rs : List R) (e : Fx.Env) : callF f_list_of_0 rs e = call0 f_list_of_0.f rs e := callF_0 (by rfl)
@[simp] theorem g_14_13 : l_14[13]? = some f_is_joined_0 := (rfl)
def l_15 : List Fn := l_14 ++ [f_list_of_0]
def f_states_of_0 : Fn := mkFn gs l_15 1 0 b_states_of_0
@[simp] theorem k_states_of_0 (rs : List R) (e : Fx.Env) : callF f_states_of_0 rs e = call0 f_states_of_0.f rs e := callF_0 (by rfl)
@[simp] theorem g_15_12 : l_15[12]? = some f_check_flexagon_0 := (rfl)
@[simp] theorem g_15_14 : l_15[14]? = some f_list_of_0 := (rfl)
def l_16 : List Fn := l_15 ++ [f_states_of_0]
def f_pairs_of_0 : Fn := mkFn gs l_16 2 0 b_pairs_of_0
@[simp] theorem k_pairs_of_0 (rs : List R) (e : Fx.Env) : callF f_pairs_of_0 rs e = call0 f_pairs_of_0.f rs e := callF_0 (by rfl)
@[simp] theorem g_16_12 : l_16[12]? = some f_check_flexagon_0 := (rfl)
@[simp] theorem g_16_14 : l_16[14]? = some f_list_of_0 := (rfl)
def l_17 : List Fn := l_16 ++ [f_pairs_of_0]
def f_check_pairs_0 : Fn := mkFn gs l_17 5 0 b_check_pairs_0
@[simp] theorem k_check_pairs_0 (rs : List R) (e : Fx.Env) : callF f_check_pairs_0 rs e = call0 f_check_pairs_0.f rs e := callF_0 (by rfl)
@[simp] theorem g_17_2 : l_17[2]? = some f_is_index_0 := (rfl)
@[simp] theorem g_17_3 : l_17[3]? = some f_is_list_0 := (rfl)
@[simp] theorem g_17_4 : l_17[4]? = some f_is_tuple_0 := (rfl)
@[simp] theorem g_17_6 : l_17[6]? = some f_check_faces_0 := (rfl)
def l_18 : List Fn := l_17 ++ [f_check_pairs_0]
def f_cross_meets_0 : Fn := mkFn gs l_18 5 0 b_cross_meets_0
@[simp] theorem k_cross_meets_0 (rs : List R) (e : Fx.Env) : callF f_cross_meets_0 rs e = call0 f_cross_meets_0.f rs e := callF_0 (by rfl)
def l_19 : List Fn := l_18 ++ [f_cross_meets_0]
def f_diagonals_for_0 : Fn := mkFn gs l_19 6 0 b_diagonals_for_0
@[simp] theorem k_diagonals_for_0 (rs : List R) (e : Fx.Env) : callF f_diagonals_for_0 rs e = call0 f_diagonals_for_0.f rs e := callF_0 (by rfl)
@[simp] theorem g_19_18 : l_19[18]? = some f_cross_meets_0 := (rfl)
def l_20 : List Fn := l_19 ++ [f_diagonals_for_0]
def f_flexagon_joining_0 : Fn := mkFn gs l_20 4 0 b_flexagon_joining_0
@[simp] theorem k_flexagon_joining_0 (rs : List R) (e : Fx.Env) : callF f_flexagon_joining_0 rs e = call0 f_flexagon_joining_0.f rs e := callF_0 (by rfl)
@[simp] theorem g_20_17 : l_20[17]? = some f_check_pairs_0 := (rfl)
@[simp] theorem g_20_18 : l_20[18]? = some f_cross_meets_0 := (rfl)
@[simp] theorem g_20_19 : l_20[19]? = some f_diagonals_for_0 := (rfl)
def l_21 : List Fn := l_20 ++ [f_flexagon_joining_0]
def f_is_joining_0 : Fn := mkFn gs l_21 5 0 b_is_joining_0
@[simp] theorem k_is_joining_0 (rs : List R) (e : Fx.Env) : callF f_is_joining_0 rs e = call0 f_is_joining_0.f rs e := callF_0 (by rfl)
@[simp] theorem g_21_11 : l_21[11]? = some f_is_flexagon_0 := (rfl)
@[simp] theorem g_21_13 : l_21[13]? = some f_is_joined_0 := (rfl)
@[simp] theorem g_21_17 : l_21[17]? = some f_check_pairs_0 := (rfl)
def l_22 : List Fn := l_21 ++ [f_is_joining_0]
def f_law_cell_0 : Fn := mkFn gs l_22 2 0 b_law_cell_0
@[simp] theorem k_law_cell_0 (rs : List R) (e : Fx.Env) : callF f_law_cell_0 rs e = call0 f_law_cell_0.f rs e := callF_0 (by rfl)
def l_23 : List Fn := l_22 ++ [f_law_cell_0]
def f_law_box_0 : Fn := mkFn gs l_23 1 0 b_law_box_0
@[simp] theorem k_law_box_0 (rs : List R) (e : Fx.Env) : callF f_law_box_0 rs e = call0 f_law_box_0.f rs e := callF_0 (by rfl)
def l_24 : List Fn := l_23 ++ [f_law_box_0]
def f_law_take_0 : Fn := mkFn gs l_24 4 1 b_law_take_0
@[simp] theorem k_law_take_0 (i : Nat) (rs : List R) (e : Fx.Env) : callF f_law_take_0 (.p i [] :: rs) e = call1 f_law_take_0.f i rs e := callF_1 (by rfl)
def l_25 : List Fn := l_24 ++ [f_law_take_0]
def f_law_same_0 : Fn := mkFn gs l_25 3 0 b_law_same_0
@[simp] theorem k_law_same_0 (rs : List R) (e : Fx.Env) : callF f_law_same_0 rs e = call0 f_law_same_0.f rs e := callF_0 (by rfl)
def l_26 : List Fn := l_25 ++ [f_law_same_0]
def f_law_same_1 : Fn := mkFn gs l_26 3 0 b_law_same_1
@[simp] theorem k_law_same_1 (rs : List R) (e : Fx.Env) : callF f_law_same_1 rs e = call0 f_law_same_1.f rs e := callF_0 (by rfl)
@[simp] theorem g_26_25 : l_26[25]? = some f_law_same_0 := (rfl)
def l_27 : List Fn := l_26 ++ [f_law_same_1]
def f_law_same_2 : Fn := mkFn gs l_27 3 0 b_law_same_2
@[simp] theorem k_law_same_2 (rs : List R) (e : Fx.Env) : callF f_law_same_2 rs e = call0 f_law_same_2.f rs e := callF_0 (by rfl)
@[simp] theorem g_27_26 : l_27[26]? = some f_law_same_1 := (rfl)
def l_28 : List Fn := l_27 ++ [f_law_same_2]
def f_law_same_3 : Fn := mkFn gs l_28 3 0 b_law_same_3
@[simp] theorem k_law_same_3 (rs : List R) (e : Fx.Env) : callF f_law_same_3 rs e = call0 f_law_same_3.f rs e := callF_0 (by rfl)
@[simp] theorem g_28_27 : l_28[27]? = some f_law_same_2 := (rfl)
def l_29 : List Fn := l_28 ++ [f_law_same_3]
def f_law_flexagon_0 : Fn := mkFn gs l_29 12 1 b_law_flexagon_0
@[simp] theorem k_law_flexagon_0 (i : Nat) (rs : List R) (e : Fx.Env) : callF f_law_flexagon_0 (.p i [] :: rs) e = call1 f_law_flexagon_0.f i rs e := callF_1 (by rfl)
@[simp] theorem g_29_24 : l_29[24]? = some f_law_take_0 := (rfl)
def l_30 : List Fn := l_29 ++ [f_law_flexagon_0]
def f_law_joined_0 : Fn := mkFn gs l_30 4 0 b_law_joined_0
@[simp] theorem k_law_joined_0 (rs : List R) (e : Fx.Env) : callF f_law_joined_0 rs e = call0 f_law_joined_0.f rs e := callF_0 (by rfl)
def l_31 : List Fn := l_30 ++ [f_law_joined_0]
def f_law_right_0 : Fn := mkFn gs l_31 5 0 b_law_right_0
@[simp] theorem k_law_right_0 (rs : List R) (e : Fx.Env) : callF f_law_right_0 rs e = call0 f_law_right_0.f rs e := callF_0 (by rfl)
def l_32 : List Fn := l_31 ++ [f_law_right_0]
def f_law_crosses_0 : Fn := mkFn gs l_32 7 0 b_law_crosses_0
@[simp] theorem k_law_crosses_0 (rs : List R) (e : Fx.Env) : callF f_law_crosses_0 rs e = call0 f_law_crosses_0.f rs e := callF_0 (by rfl)
def l_33 : List Fn := l_32 ++ [f_law_crosses_0]
def f_law_pairs_0 : Fn := mkFn gs l_33 7 1 b_law_pairs_0
@[simp] theorem k_law_pairs_0 (i : Nat) (rs : List R) (e : Fx.Env) : callF f_law_pairs_0 (.p i [] :: rs) e = call1 f_law_pairs_0.f i rs e := callF_1 (by rfl)
@[simp] theorem g_33_24 : l_33[24]? = some f_law_take_0 := (rfl)
def l_34 : List Fn := l_33 ++ [f_law_pairs_0]
def f_law_0 : Fn := mkFn gs l_34 13 0 b_law_0
@[simp] theorem k_law_0 (rs : List R) (e : Fx.Env) : callF f_law_0 rs e = call0 f_law_0.f rs e := callF_0 (by rfl)
@[simp] theorem g_34_15 : l_34[15]? = some f_states_of_0 := (rfl)
@[simp] theorem g_34_16 : l_34[16]? = some f_pairs_of_0 := (rfl)
@[simp] theorem g_34_20 : l_34[20]? = some f_flexagon_joining_0 := (rfl)
@[simp] theorem g_34_21 : l_34[21]? = some f_is_joining_0 := (rfl)
@[simp] theorem g_34_22 : l_34[22]? = some f_law_cell_0 := (rfl)
@[simp] theorem g_34_23 : l_34[23]? = some f_law_box_0 := (rfl)
@[simp] theorem g_34_24 : l_34[24]? = some f_law_take_0 := (rfl)
@[simp] theorem g_34_28 : l_34[28]? = some f_law_same_3 := (rfl)
@[simp] theorem g_34_29 : l_34[29]? = some f_law_flexagon_0 := (rfl)
@[simp] theorem g_34_30 : l_34[30]? = some f_law_joined_0 := (rfl)
@[simp] theorem g_34_31 : l_34[31]? = some f_law_right_0 := (rfl)
@[simp] theorem g_34_32 : l_34[32]? = some f_law_crosses_0 := (rfl)
@[simp] theorem g_34_33 : l_34[33]? = some f_law_pairs_0 := (rfl)
end K53

namespace K53
open Fx Fx.Fo PySem
set_option maxRecDepth 100000
set_option linter.all false
theorem is_integer (i : Int) : f_is_integer_0.f [.fz (.int i)] = some (.ret (.fz (.bl true)) []) := by
  simp [f_is_integer_0, mkFn_f, startE, b_is_integer_0]
theorem is_within (i a b : Int) : f_is_within_0.f [.fz (.int i), .fz (.int a), .fz (.int b)] = some (.ret (.fz (.bl (decide (a ≤ i) && decide (i ≤ b)))) []) := by
  simp [f_is_within_0, mkFn_f, startE, b_is_within_0, is_integer]
  (repeat' split) <;> simp_all <;> try omega
theorem is_index (i n : Int) : f_is_index_0.f [.fz (.int i), .fz (.int n)] = some (.ret (.fz (.bl (decide (0 ≤ i) && decide (i < n)))) []) := by
  simp [f_is_index_0, mkFn_f, startE, b_is_index_0, is_integer]
  (repeat' split) <;> simp_all <;> try omega
theorem is_list (ds : List D) : f_is_list_0.f [.fz (.lst ds)] = some (.ret (.fz (.bl true)) []) := by
  simp [f_is_list_0, mkFn_f, startE, b_is_list_0]
theorem is_tuple (ds : List D) (n : Int) : f_is_tuple_0.f [.fz (.tup ds), .fz (.int n)] = some (.ret (.fz (.bl (decide ((ds.length : Int) = n)))) []) := by
  simp [f_is_tuple_0, mkFn_f, startE, b_is_tuple_0]
def asc (f : List Pr) : Bool := (f.zip f.tail).all fun q => ltP q.1 q.2
theorem ascends (f : List Pr) (h : f.length ≤ 1000) : f_ascends_0.f [.fz (.tup (f.map encP))] = some (.ret (.fz (.bl (asc f))) []) := by
  simp [f_ascends_0, mkFn_f, startE, b_ascends_0, cut_from _ (show (0 : Int) ≤ 1 by decide)]
  rw [← List.map_tail, zipL_pp, compL_map (u := fun q => .fz (.bl (ltP q.1 q.2))) (fun q _ => by simp) (by rw [List.length_zip]; exact Nat.le_trans (Nat.min_le_left _ _) (sz_le h))]
  simp [ers_map, asc]
theorem check_faces (n : Int) (h1 : 3 ≤ n) (h2 : n ≤ 24) : f_check_faces_0.f [.fz (.int n)] = some (.ret (.fz .non) []) := by
  simp [f_check_faces_0, mkFn_f, startE, b_check_faces_0, is_within, h1, h2]
def pairOk (n : Int) (p : Pr) : Bool := (decide (0 ≤ p.1) && decide (p.1 < n)) && ((decide (0 ≤ p.2) && decide (p.2 < n)) && decide (p.1 < p.2))
theorem is_pair (p : Pr) (n : Int) : f_is_pair_0.f [.fz (.tup [.int p.1, .int p.2]), .fz (.int n)] = some (.ret (.fz (.bl (pairOk n p))) []) := by
  simp [f_is_pair_0, mkFn_f, startE, b_is_pair_0, is_tuple, is_index, pairOk]
  (repeat' split) <;> simp_all <;> omega
theorem are_neighbors (a b n : Int) (h : 0 < n) : f_are_neighbors_0.f [.fz (.int a), .fz (.int b), .fz (.int n)] = some (.ret (.fz (.bl (decide ((a + 1) % n = b) || decide ((b + 1) % n = a)))) []) := by
  simp [f_are_neighbors_0, mkFn_f, startE, b_are_neighbors_0, modI h]
  (repeat' split) <;> simp_all <;> omega
def diaOk (n : Int) (p : Pr) : Bool := pairOk n p && !(decide ((p.1 + 1) % n = p.2) || decide ((p.2 + 1) % n = p.1))
theorem is_diagonal (p : Pr) (n : Int) (h : 0 < n) : f_is_diagonal_0.f [.fz (.tup [.int p.1, .int p.2]), .fz (.int n)] = some (.ret (.fz (.bl (diaOk n p))) []) := by
  simp [f_is_diagonal_0, mkFn_f, startE, b_is_diagonal_0, is_pair, diaOk, are_neighbors _ _ n h]
  (repeat' split) <;> simp_all
def cro (p q : Pr) : Bool := (decide (p.1 < q.1) && (decide (q.1 < p.2) && decide (p.2 < q.2))) || (decide (q.1 < p.1) && (decide (p.1 < q.2) && decide (q.2 < p.2)))
theorem cross_polygons (p q : Pr) : f_cross_polygons_0.f [.fz (.tup [.int p.1, .int p.2]), .fz (.tup [.int q.1, .int q.2])] = some (.ret (.fz (.bl (cro p q))) []) := by
  simp [f_cross_polygons_0, mkFn_f, startE, b_cross_polygons_0, cro]
  (repeat' split) <;> simp_all <;> omega
def isJ (f : List Pr) (a b : Int) : Bool := (decide (1 = (a - b) % ((f.length : Int) + 3)) || decide ((f.length : Int) + 3 - 1 = (a - b) % ((f.length : Int) + 3))) || decide ((min a b, max a b) ∈ f)
theorem joined (f : List Pr) (a b : Int) : f_law_joined_0.f [.fz (.tup (f.map encP)), .fz (.int a), .fz (.int b)] = some (.ret (.fz (.bl (isJ f a b))) []) := by
  have hn : 0 < (f.length : Int) + 3 := by omega
  simp [f_law_joined_0, mkFn_f, startE, b_law_joined_0, modI hn, isJ]
  split <;> simp_all
theorem is_joined (f : List Pr) (a b : Int) : f_is_joined_0.f [.fz (.tup (f.map encP)), .fz (.int a), .fz (.int b)] = some (.ret (.fz (.bl (isJ f a b))) []) := by
  have hn : 0 < (f.length : Int) + 3 := by omega
  simp [f_is_joined_0, mkFn_f, startE, b_is_joined_0, modI hn, isJ]
  split <;> simp_all
/-- what is_flexagon asks -/
def flexOk (f : List Pr) : Bool := (f.all (diaOk ((f.length : Int) + 3)) && asc f) && !(f.zipIdx.flatMap fun p => (f.drop (p.2 + 1)).map fun q => (p, q)).any fun z => cro z.1.1 z.2
theorem is_flexagon (f : List Pr) (h : f.length ≤ 21) : f_is_flexagon_0.f [.fz (.tup (f.map encP))] = some (.ret (.fz (.bl (flexOk f))) []) := by
  have hn : 0 < (f.length : Int) + 3 := by omega
  have h1 : ¬ ((24 : Int) - 3 < f.length) := by omega
  simp [f_is_flexagon_0, mkFn_f, startE, b_is_flexagon_0, h1]
  rw [compL_map (u := fun q => .fz (.bl (diaOk ((f.length : Int) + 3) q))) (fun q _ => by simp [is_diagonal q _ hn]) (sz_le (by omega))]
  simp [ers_map, ascends f (by omega)]
  rw [enumL_p, compL_enc (g := fun p => (f.drop (p.2 + 1)).map fun q => .fz (.bl (cro p.1 q)))]
  · rw [flat_map]
    have h2 : ¬ ((21 : Int) < f.length) := by omega
    simp only [ers_map, flexOk]
    cases hA : f.all (diaOk ((f.length : Int) + 3)) <;> cases hB : asc f <;> simp [h2, ers_map]
  · intro p hp
    simp [cut_from _ (show (0 : Int) ≤ (p.2 : Int) + 1 by omega)]
    rw [← List.map_drop, compL_map (u := fun q => .fz (.bl (cro p.1 q))) (fun q _ => by simp [cross_polygons]) (by rw [List.length_drop]; exact sz_le (by omega))]
    simp
  · refine Nat.le_trans (flat_len (k := 21) fun p _ => ?_) ?_
    · simp; omega
    · simp; exact sz_le (by omega)
theorem check_flexagon (f : List Pr) (h : f.length ≤ 21) (hf : flexOk f = true) : f_check_flexagon_0.f [.fz (.tup (f.map encP))] = some (.ret (.fz .non) []) := by
  simp [f_check_flexagon_0, mkFn_f, startE, b_check_flexagon_0, is_flexagon f h, hf]
/-- the states with a face in front -/
def stF (f : List Pr) (a : Int) : List Pr := ((rng 0 ((f.length : Int) + 3)).filter fun b => isJ f a b && !decide (b = a)).map fun b => (a, b)
def stL (f : List Pr) : List Pr := (rng 0 ((f.length : Int) + 3)).flatMap (stF f)
theorem rng_le (f : List Pr) (h : f.length ≤ 21) : (rng 0 ((f.length : Int) + 3)).length ≤ 24 := by rw [rng_len]; omega
theorem stF_len (f : List Pr) (h : f.length ≤ 21) (a : Int) : (stF f a).length ≤ 24 := by
  unfold stF
  rw [List.length_map]
  exact Nat.le_trans (List.length_filter_le _ _) (rng_le f h)
theorem list_of (f : List Pr) (h : f.length ≤ 21) : f_list_of_0.f [.fz (.tup (f.map encP))] = some (.ret (ol ((stL f).map encP)) []) := by
  have hs : small62 ((f.length : Int) + 3) = true := small_62 (by omega) (by omega)
  obtain ⟨e', q1, o3, o4, q2⟩ := forL_inv (enc := D.int) (xs := rng 0 ((f.length : Int) + 3)) (f := fbody (fun e3 => exs (cf gs l_14) b_list_of_0_L0 e3) (Tg.n 3))
    (e := [.is (.fz (.tup (f.map encP))), .is (.fz (.int ((f.length : Int) + 3))), .is (ol []), .un, .un, .un])
    (fun pre e => ∃ o3 o4, e = [.is (.fz (.tup (f.map encP))), .is (.fz (.int ((f.length : Int) + 3))), .is (ol ((pre.flatMap (stF f)).map encP)), jk o3, jk o4, .un]) ⟨none, none, rfl⟩ fun pre x post e hx ⟨o3, o4, he⟩ => by
      subst he
      have hpl : pre.length ≤ 24 := by
        have := rng_le f h
        rw [hx, List.length_append] at this
        omega
      have hfl : (pre.flatMap (stF f)).length ≤ pre.length * 24 := flat_len fun y _ => stF_len f h y
      have hsx := stF_len f h x
      simp [hs, b_list_of_0_L0]
      rw [compL_filter (p := fun b => !decide (b = x)) (u := fun b => .fz (.int b)) (fun b _ => by simp; split <;> simp_all) (sz_le (Nat.le_trans (rng_le f h) (by decide)))]
      simp
      rw [compL_filter (p := fun b => isJ f x b) (u := fun b => .fz (.tup [.int x, .int b])) (fun b _ => by simp [is_joined]; split <;> simp_all) (sz_le (Nat.le_trans (List.length_filter_le _ _) (Nat.le_trans (rng_le f h) (by decide))))]
      simp
      have hst : (stF f x).map encP = ((rng 0 ((f.length : Int) + 3)).filter fun b => isJ f x b && !decide (b = x)).map fun b => D.tup [.int x, .int b] := by rw [stF, List.map_map]; rfl
      rw [← hst]
      simp [ext_ol (ds := (pre.flatMap (stF f)).map encP) (us := (stF f x).map encP) (by rw [List.length_map, List.length_map]; exact sz_le (by omega))]
      exact ⟨⟨some _, rfl⟩, some _, rfl⟩
  simp [f_list_of_0, mkFn_f, startE, b_list_of_0, hs, q1, q2, stL]
end K53

namespace K53
open Fx Fx.Fo PySem
set_option maxRecDepth 100000
set_option linter.all false
theorem states_of (f : List Pr) (h : f.length ≤ 21) (hf : flexOk f = true) : f_states_of_0.f [.fz (.tup (f.map encP))] = some (.ret (ol ((stL f).map encP)) []) := by
  simp [f_states_of_0, mkFn_f, startE, b_states_of_0, check_flexagon f h hf, list_of f h]
theorem stL_len (f : List Pr) (h : f.length ≤ 21) : (stL f).length ≤ 24 * 24 := by
  refine Nat.le_trans (flat_len (k := 24) fun y _ => stF_len f h y) ?_
  exact Nat.mul_le_mul_right _ (rng_le f h)
theorem pairs_of (f : List Pr) (h : f.length ≤ 21) (hf : flexOk f = true) : f_pairs_of_0.f [.fz (.tup (f.map encP))] = some (.ret (ol (((stL f).filter fun p => decide (p.1 < p.2)).map encP)) []) := by
  simp [f_pairs_of_0, mkFn_f, startE, b_pairs_of_0, check_flexagon f h hf, list_of f h]
  rw [compL_filter (p := fun p : Pr => decide (p.1 < p.2)) (u := fun p => .fz (encP p)) (fun p _ => by simp; split <;> simp_all) (sz_le (Nat.le_trans (stL_len f h) (by decide)))]
  simp [ol]
/-- pairs of faces that may be asked for -/
def PsOk (n : Int) (ps : List Pr) : Prop := ∀ p ∈ ps, 0 ≤ p.1 ∧ p.1 < n ∧ 0 ≤ p.2 ∧ p.2 < n ∧ p.1 ≠ p.2
theorem check_pairs (n : Int) (ps : List Pr) (h1 : 3 ≤ n) (h2 : n ≤ 24) (hl : ps.length ≤ 1000) (hp : PsOk n ps) : f_check_pairs_0.f [.fz (.int n), .fz (.lst (ps.map encP))] = some (.ret (.fz .non) []) := by
  simp [f_check_pairs_0, mkFn_f, startE, b_check_pairs_0, check_faces n h1 h2, is_list]
  rw [compL_map (u := fun _ => .fz (.bl true)) (fun q _ => by simp [is_tuple]) (sz_le hl)]
  simp [ers_map]
  rw [compL_map (u := fun _ => .fz (.bl true)) (fun q hq => by
    obtain ⟨a1, a2, a3, a4, a5⟩ := hp q hq
    simp [is_index, a1, a2, a3, a4, a5]) (sz_le hl)]
  simp [ers_map]
/-- meets.cross -/
def crM (p q : Pr) : Bool := !((decide (q.1 = p.1) || decide (q.2 = p.1)) || (decide (q.1 = p.2) || decide (q.2 = p.2))) && decide ((([q.1, q.2].filter fun x => decide (min p.1 p.2 < x) && decide (x < max p.1 p.2)).length : Int) = 1)
theorem cross_meets (p q : Pr) : f_cross_meets_0.f [.fz (.tup [.int p.1, .int p.2]), .fz (.tup [.int q.1, .int q.2])] = some (.ret (.fz (.bl (crM p q))) []) := by
  simp [f_cross_meets_0, mkFn_f, startE, b_cross_meets_0]
  rw [compL_two (a := .fz (.bl (decide (q.1 = p.1) || decide (q.2 = p.1)))) (b := .fz (.bl (decide (q.1 = p.2) || decide (q.2 = p.2)))) (by simp) (by simp)]
  simp [any2, minT2, maxT2]
  rw [show [D.int q.1, D.int q.2] = [q.1, q.2].map encI from rfl, compL_filter (p := fun x => decide (min p.1 p.2 < x) && decide (x < max p.1 p.2)) (u := fun x => .fz (.int x)) (fun x _ => by
    simp
    (repeat' split) <;> simp_all <;> omega) (sz_le (by simp))]
  simp [ers_map, crM]
  split <;> simp_all <;> intros <;> omega
def nrm (p : Pr) : Pr := (min p.1 p.2, max p.1 p.2)
/-- put in unless it crosses -/
def putG (found : List Pr) (p : Pr) : List Pr := if found.any (fun q => crM p q) then found else found ++ [p]
def rowG (n : Int) (found : List Pr) (a : Int) : List Pr := (rng (a + 2) n).foldl (fun f b => putG f (a, b)) found
def allG (n : Int) (ps : List Pr) : List Pr := (rng 0 n).foldl (rowG n) (ps.map nrm)
def dgl (n : Int) (p : Pr) : Bool := decide (1 < p.2 - p.1) && decide (p.2 - p.1 < n - 1)
theorem putG_len (f : List Pr) (p : Pr) : (putG f p).length ≤ f.length + 1 := by unfold putG; split <;> simp
theorem foldl_len {α : Type} {k : Nat} {g : List Pr → α → List Pr} (hg : ∀ f a, (g f a).length ≤ f.length + k) : ∀ (l : List α) (f : List Pr), (l.foldl g f).length ≤ f.length + l.length * k
  | [], f => by simp
  | a :: l, f => by
    rw [List.foldl_cons, List.length_cons, Nat.succ_mul]
    have h1 := foldl_len hg l (g f a)
    have h2 := hg f a
    omega
theorem rowG_len {n : Int} (h : n ≤ 24) (f : List Pr) (a : Int) (ha : 0 ≤ a) : (rowG n f a).length ≤ f.length + 24 := by
  have h1 := foldl_len (k := 1) (g := fun f b => putG f (a, b)) (fun f b => putG_len f _) (rng (a + 2) n) f
  have h2 : (rng (a + 2) n).length ≤ 24 := by rw [rng_len]; omega
  unfold rowG
  omega
theorem sub01 (a b : Int) : ixD [D.int a, D.int b] 1 = some (.int b) := by simp
theorem diag_inner (n : Int) (h2 : n ≤ 24) (h1 : 3 ≤ n) (sp : Sl) (found : List Pr) (hf : found.length ≤ 10000) (a : Int) (ha : 0 ≤ a ∧ a < n) (o4 : Option T) : ∃ o4', exs (cf gs l_19) b_diagonals_for_0_L1 [.is (.fz (.int n)), sp, .is (ol (found.map encP)), .is (.fz (.int a)), jk o4, .un] =
    .ok .nx [.is (.fz (.int n)), sp, .is (ol ((rowG n found a).map encP)), .is (.fz (.int a)), jk o4', .un] := by
  have hs : small62 n = true := small_62 (by omega) (by omega)
  have hs2 : small62 (a + 2) = true := small_62 (by omega) (by omega)
  obtain ⟨e', q1, o4', q2⟩ := forL_inv (enc := D.int) (xs := rng (a + 2) n) (f := fbody (fun e3 => exs (cf gs l_19) b_diagonals_for_0_L0 e3) (Tg.n 4))
    (e := [.is (.fz (.int n)), sp, .is (ol (found.map encP)), .is (.fz (.int a)), jk o4, .un])
    (fun pre e => ∃ o4, e = [.is (.fz (.int n)), sp, .is (ol ((pre.foldl (fun f b => putG f (a, b)) found).map encP)), .is (.fz (.int a)), jk o4, .un]) ⟨o4, rfl⟩ fun pre x post e hx ⟨o4, he⟩ => by
      subst he
      have hpl : pre.length ≤ 24 := by
        have := rng_len (a + 2) n
        rw [hx, List.length_append] at this
        omega
      have hfl := foldl_len (k := 1) (g := fun f b => putG f (a, b)) (fun f b => putG_len f _) pre found
      rw [List.foldl_append]
      generalize pre.foldl (fun f b => putG f (a, b)) found = g at *
      simp [b_diagonals_for_0_L0]
      rw [compL_map (u := fun p => .fz (.bl (crM (a, x) p))) (fun q _ => by simp [cross_meets (a, x) q]) (Nat.le_trans (show g.length ≤ 20000 by omega) (by decide))]
      by_cases hc : g.any (fun q => crM (a, x) q) = true
      · try simp only [List.foldl_cons, List.foldl_nil]
        rw [show putG g (a, x) = g by unfold putG; rw [if_pos hc]]
        refine ⟨_, ?_, some (.fz (.int x)), rfl⟩
        simp [hc]
      · have hc' : g.any (fun q => crM (a, x) q) = false := by simpa using hc
        try simp only [List.foldl_cons, List.foldl_nil]
        rw [show putG g (a, x) = g ++ [(a, x)] by unfold putG; rw [if_neg hc]]
        refine ⟨_, ?_, some (.fz (.int x)), rfl⟩
        simp [hc', app_ol (ds := g.map encP) (d := .tup [.int a, .int x]) (by rw [List.length_map]; exact Nat.lt_of_le_of_lt (show g.length ≤ 20000 by omega) (by decide))]
  refine ⟨o4', ?_⟩
  simp [b_diagonals_for_0_L1, hs, hs2, q1, q2, rowG]
theorem allG_len (n : Int) (h2 : n ≤ 24) (ps : List Pr) : ∀ (l : List Int), (∀ a ∈ l, 0 ≤ a) → (l.foldl (rowG n) ps).length ≤ ps.length + l.length * 24 := fun l => by
  induction l generalizing ps with
  | nil => intro _; simp
  | cons a l ih =>
    intro h
    rw [List.foldl_cons, List.length_cons, Nat.succ_mul]
    have h1 := ih (rowG n ps a) fun b hb => h b (List.mem_cons_of_mem _ hb)
    have h3 := rowG_len h2 ps a (h a List.mem_cons_self)
    omega
theorem diagonals_for (n : Int) (ps : List Pr) (h1 : 3 ≤ n) (h2 : n ≤ 24) (hl : ps.length ≤ 1000) (R : List Pr) (hR : sortsetD (((allG n ps).filter (dgl n)).map encP) = some (R.map encP)) : f_diagonals_for_0.f [.fz (.int n), .fz (.lst (ps.map encP))] = some (.ret (.fz (.tup (R.map encP))) []) := by
  have hs : small62 n = true := small_62 (by omega) (by omega)
  have hrl : (rng 0 n).length ≤ 24 := by rw [rng_len]; omega
  obtain ⟨e', q1, o3, o4, q2⟩ := forL_inv (enc := D.int) (xs := rng 0 n) (f := fbody (fun e3 => exs (cf gs l_19) b_diagonals_for_0_L1 e3) (Tg.n 3))
    (e := [.is (.fz (.int n)), .is (.fz (.lst (ps.map encP))), .is (ol ((ps.map nrm).map encP)), .un, .un, .un])
    (fun pre e => ∃ o3 o4, e = [.is (.fz (.int n)), .is (.fz (.lst (ps.map encP))), .is (ol ((pre.foldl (rowG n) (ps.map nrm)).map encP)), jk o3, jk o4, .un]) ⟨none, none, rfl⟩ fun pre x post e hx ⟨o3, o4, he⟩ => by
      subst he
      have hm : ∀ y ∈ pre ++ x :: post, 0 ≤ y ∧ y < n := fun y hy => mem_rng.mp (hx ▸ hy)
      have hpl : pre.length ≤ 24 := by
        rw [hx, List.length_append] at hrl
        omega
      have hfl := allG_len n h2 (ps.map nrm) pre fun a ha => (hm a (List.mem_append_left _ ha)).1
      rw [List.length_map] at hfl
      obtain ⟨o4', w⟩ := diag_inner n h2 h1 (.is (.fz (.lst (ps.map encP)))) (pre.foldl (rowG n) (ps.map nrm)) (by omega) x (hm x (by simp)) o4
      refine ⟨_, ?_, some (.fz (.int x)), o4', rfl⟩
      simp [w, List.foldl_append]
  have hal : (allG n ps).length ≤ 20000 := by
    have := allG_len n h2 (ps.map nrm) (rng 0 n) fun a ha => (mem_rng.mp ha).1
    rw [List.length_map] at this
    unfold allG
    omega
  have hb : biD .sortset [.lst (((allG n ps).filter (dgl n)).map encP)] = some (ol (R.map encP)) := by
    show (match sortsetD (((allG n ps).filter (dgl n)).map encP) with | some es => some (ol es) | none => none) = _
    rw [hR]
  rw [show (ps.map nrm).map encP = ps.map (fun p => D.tup [.int (nrm p).1, .int (nrm p).2]) by rw [List.map_map]; rfl] at q1
  simp [f_diagonals_for_0, mkFn_f, startE, b_diagonals_for_0, hs]
  rw [compL_map (u := fun p => .fz (encP (nrm p))) (fun q _ => by simp [minT2, maxT2, nrm]) (sz_le hl)]
  simp [hs, q1, q2]
  rw [show List.foldl (rowG n) (ps.map nrm) (rng 0 n) = allG n ps from rfl]
  rw [compL_filter (p := dgl n) (u := fun p => .fz (encP p)) (fun p _ => by
    simp [dgl]
    (repeat' split) <;> simp_all <;> omega) (Nat.le_trans hal (by decide))]
  simp [hb]
end K53

namespace K53
open Fx Fx.Fo PySem
set_option maxRecDepth 100000
set_option linter.all false
def pq (ps : List Pr) : List (Pr × Pr) := ps.flatMap fun p => ps.map fun q => (p, q)
/-- two of them cross -/
def crAny (ps : List Pr) : Bool := (pq ps).any fun z => crM z.1 z.2
theorem flexagon_joining (n : Int) (ps : List Pr) (h1 : 3 ≤ n) (h2 : n ≤ 24) (hl : ps.length ≤ 1000) (hp : PsOk n ps) (R : List Pr) (hR : crAny ps = false → sortsetD (((allG n ps).filter (dgl n)).map encP) = some (R.map encP)) :
    f_flexagon_joining_0.f [.fz (.int n), .fz (.lst (ps.map encP))] = some (.ret (.fz (if crAny ps then .non else .tup (R.map encP))) []) := by
  simp [f_flexagon_joining_0, mkFn_f, startE, b_flexagon_joining_0, check_pairs n ps h1 h2 hl hp]
  rw [compL_enc (g := fun p => ps.map fun q => .fz (.bl (crM p q)))]
  · rw [flat_map]
    show _
    simp [ers_map]
    cases hc : crAny ps with
    | true =>
      have hc' := hc
      unfold crAny pq at hc'
      simp at hc'
      simp [hc']
    | false =>
      have hd := diagonals_for n ps h1 h2 hl R (hR hc)
      have hc' := hc
      unfold crAny pq at hc'
      simp at hc'
      simp [hc', hd]
      exact fun a b h c d h' => hc' a b h c d h'
  · intro p hp
    simp
    rw [compL_map (u := fun q => .fz (.bl (crM p q))) (fun q _ => by simp [cross_meets]) (sz_le hl)]
    simp
  · refine Nat.le_trans (flat_len (k := 1000) fun p _ => by rw [List.length_map]; exact hl) (Nat.le_trans (Nat.mul_le_mul_right _ hl) (by decide))
theorem is_joining (n : Int) (ps f : List Pr) (h1 : 3 ≤ n) (h2 : n ≤ 24) (hl : ps.length ≤ 1000) (hp : PsOk n ps) (hf : flexOk f = true) (hn : (f.length : Int) + 3 = n) :
    f_is_joining_0.f [.fz (.int n), .fz (.lst (ps.map encP)), .fz (.tup (f.map encP))] = some (.ret (.fz (.bl (ps.all fun p => isJ f p.1 p.2))) []) := by
  simp [f_is_joining_0, mkFn_f, startE, b_is_joining_0, check_pairs n ps h1 h2 hl hp, is_flexagon f (by omega), hf, hn]
  rw [compL_map (u := fun p => .fz (.bl (isJ f p.1 p.2))) (fun q _ => by simp [is_joined]) (sz_le hl)]
  simp [ers_map]
theorem law_box (g : Int) : ∃ a b c, f_law_box_0.f [.fz (.int g)] = some (.ret (ol [.int a, .bl b, .int c, .int 0]) []) ∧ 0 ≤ a ∧ 0 ≤ c ∧ c < 2147483629 := by
  refine ⟨if g < 0 then -g else g, decide (1000000000000000000 ≤ if g < 0 then -g else g), (if g < 0 then -g else g) % 2147483629, ?_, by split <;> omega, Int.emod_nonneg _ (by decide), Int.emod_lt_of_pos _ (by decide)⟩
  simp [f_law_box_0, mkFn_f, startE, b_law_box_0, modI (show (0 : Int) < 2147483629 by decide), pow1018]
theorem law_cell (ns : List Int) (k : Int) (h0 : 0 ≤ k) (h1 : k ≤ 10) : ∃ v : Int, f_law_cell_0.f [.fz (.rol (ns.map .int)), .fz (.int k)] = some (.ret (.fz (.int v)) []) := by
  simp [f_law_cell_0, mkFn_f, startE, b_law_cell_0, modI (show (0 : Int) < 1000003 by decide), cut_to _ (show (0 : Int) ≤ 1 by decide), mulI (mulOk_l (i := 13399) (j := k) (by decide) (by decide))]
  by_cases c : k < (ns.length : Int)
  · obtain ⟨x, _, _, hx⟩ := ixD_map (enc := D.int) h0 c
    refine ⟨x, ?_⟩
    simp [c, hx]
  · have hs := sumB (ns.take 1)
    rw [List.map_take] at hs
    refine ⟨13399 * k + (ns.take 1).sum % 1000003, ?_⟩
    simp [c, hs, modI (show (0 : Int) < 1000003 by decide)]
/-- a box of the law's own -/
structure Bx (t : T) (m : Int) : Prop where
  ex : ∃ a b c m', t = ol [.int a, .bl b, .int c, .int m'] ∧ 0 ≤ a ∧ 0 ≤ c ∧ c < 2147483629 ∧ 0 ≤ m' ∧ m' ≤ m
theorem Bx.mono {t : T} {m n : Int} (h : Bx t m) (hn : m ≤ n) : Bx t n := by
  obtain ⟨a, b, c, m', e, h1, h2, h3, h4, h5⟩ := h.ex
  exact ⟨a, b, c, m', e, h1, h2, h3, h4, by omega⟩
theorem law_take {t : T} {m : Int} (h : Bx t m) (hm : m ≤ 1000000) (many : Int) (h1 : 0 < many) (h2 : many < 1073741824) : ∃ d t', f_law_take_0.f [t, .fz (.int many)] = some (.ret (.fz (.int d)) [t']) ∧ 0 ≤ d ∧ d < many ∧ Bx t' (m + 1) := by
  obtain ⟨a, b, c, m', rfl, q1, q2, q3, q4, q5⟩ := h.ex
  have w1 : (c + 15485867 * (m' + 1) + 179425033).natAbs < 2 ^ 64 := by omega
  have w0 : mulOk 15485867 (m' + 1) = true := mulOk_l (by decide) (by decide)
  have fin : ∀ x : Int, 0 ≤ x % many ∧ x % many < many := fun x => ⟨Int.emod_nonneg _ (by omega), Int.emod_lt_of_pos _ h1⟩
  have x0 := Int.emod_nonneg ((c + 15485867 * (m' + 1) + 179425033) ^ 5) (b := 2147483647) (by decide)
  have x1 := Int.emod_lt_of_pos ((c + 15485867 * (m' + 1) + 179425033) ^ 5) (b := 2147483647) (by decide)
  generalize hX : (c + 15485867 * (m' + 1) + 179425033) ^ 5 % 2147483647 = X at *
  have w2 : (X * 48271 + 7919 * (m' + 1)).natAbs < 2 ^ 64 := by omega
  by_cases hb : b = true ∧ 0 < a
  · obtain ⟨rfl, hb⟩ := hb
    refine ⟨a % many, ol [.int (a / many), .bl true, .int c, .int m'], ?_, (fin a).1, (fin a).2, ⟨_, _, _, _, rfl, Int.ediv_nonneg q1 (by omega), q2, q3, q4, by omega⟩⟩
    simp [f_law_take_0, mkFn_f, startE, b_law_take_0, modI h1, divI h1 h2, hb]
  · refine ⟨(X * 48271 + 7919 * (m' + 1)) ^ 3 % 2147483587 / 64 % many, ol [.int a, .bl b, .int c, .int (m' + 1)], ?_, (fin _).1, (fin _).2, ⟨_, _, _, _, rfl, q1, q2, q3, by omega, by omega⟩⟩
    have go : ∀ bb : Bool, (bb = true → ¬ 0 < a) → f_law_take_0.f [ol [.int a, .bl bb, .int c, .int m'], .fz (.int many)] = some (.ret (.fz (.int ((X * 48271 + 7919 * (m' + 1)) ^ 3 % 2147483587 / 64 % many))) [ol [.int a, .bl bb, .int c, .int (m' + 1)]]) := fun bb hbb => by
      cases bb with
      | true =>
        simp [f_law_take_0, mkFn_f, startE, b_law_take_0, modI h1, modI (show (0 : Int) < 2147483647 by decide), modI (show (0 : Int) < 2147483587 by decide), divI (show (0 : Int) < 64 by decide) (by decide), powI5 w1, mulI w0, hbb rfl, hX,
          mulI (mulOk_r (i := X) (j := 48271) (by decide) (by decide)), mulI (mulOk_l (i := 7919) (j := m' + 1) (by decide) (by decide)), powI3 w2]
      | false =>
        simp [f_law_take_0, mkFn_f, startE, b_law_take_0, modI h1, modI (show (0 : Int) < 2147483647 by decide), modI (show (0 : Int) < 2147483587 by decide), divI (show (0 : Int) < 64 by decide) (by decide), powI5 w1, mulI w0, hX,
          mulI (mulOk_r (i := X) (j := 48271) (by decide) (by decide)), mulI (mulOk_l (i := 7919) (j := m' + 1) (by decide) (by decide)), powI3 w2]
    exact go b fun z1 z2 => hb ⟨z1, z2⟩
/-! _law_same -/
theorem same0_i (i : Int) : f_law_same_0.f [.fz (.int i), .fz (.int i)] = some (.ret (.fz (.bl true)) []) := by
  simp [f_law_same_0, mkFn_f, startE, b_law_same_0]
theorem same2_b (a b : Bool) : f_law_same_2.f [.fz (.bl a), .fz (.bl b)] = some (.ret (.fz (.bl (a == b))) []) := by
  simp [f_law_same_2, mkFn_f, startE, b_law_same_2, eqBB]
theorem same2_i (i : Int) : f_law_same_2.f [.fz (.int i), .fz (.int i)] = some (.ret (.fz (.bl true)) []) := by
  simp [f_law_same_2, mkFn_f, startE, b_law_same_2]
theorem same3_b (a b : Bool) : f_law_same_3.f [.fz (.bl a), .fz (.bl b)] = some (.ret (.fz (.bl (a == b))) []) := by
  simp [f_law_same_3, mkFn_f, startE, b_law_same_3, eqBB]
theorem neBB (a b : Bool) : cmpD .NotEq (.bl a) (.bl b) = some (!(a == b)) := by
  show some (!D.eq (.bl a) (.bl b)) = _
  simp [D.eq]
theorem same1_t (xs ys : List D) (h : xs.length = ys.length) (hl : ys.length ≤ 1000) (hs : ∀ (k : Nat) (x y : D), xs[k]? = some x → ys[k]? = some y → f_law_same_0.f [.fz x, .fz y] = some (.ret (.fz (.bl true)) [])) : f_law_same_1.f [.fz (.tup xs), .fz (.tup ys)] = some (.ret (.fz (.bl true)) []) := by
  have h' : (xs.length : Int) = ys.length := by omega
  simp [f_law_same_1, mkFn_f, startE, b_law_same_1, eqBB, neBB, small_62 (i := (ys.length : Int)) (by omega) (by omega), h']
  rw [compL_filter (p := fun _ => false) (u := fun k => .fz (.int k)) (fun k hk => by
    obtain ⟨k0, k1⟩ := mem_rng.mp hk
    have hx : xs[k.toNat]? = some xs[k.toNat] := List.getElem?_eq_getElem (by omega)
    have hy : ys[k.toNat]? = some ys[k.toNat] := List.getElem?_eq_getElem (by omega)
    have := hs _ _ _ hx hy
    simp [ixD_in k0 hx, ixD_in k0 hy, this]) (by rw [rng_len]; exact sz_le (by omega))]
  have := eqNilI []
  simp at this
  simp [this]
theorem same1_l (xs ys : List D) (h : xs.length = ys.length) (hl : ys.length ≤ 1000) (hs : ∀ (k : Nat) (x y : D), xs[k]? = some x → ys[k]? = some y → f_law_same_0.f [.fz x, .fz y] = some (.ret (.fz (.bl true)) [])) : f_law_same_1.f [.fz (.lst xs), .fz (.lst ys)] = some (.ret (.fz (.bl true)) []) := by
  have h' : (xs.length : Int) = ys.length := by omega
  simp [f_law_same_1, mkFn_f, startE, b_law_same_1, eqBB, neBB, small_62 (i := (ys.length : Int)) (by omega) (by omega), h']
  rw [compL_filter (p := fun _ => false) (u := fun k => .fz (.int k)) (fun k hk => by
    obtain ⟨k0, k1⟩ := mem_rng.mp hk
    have hx : xs[k.toNat]? = some xs[k.toNat] := List.getElem?_eq_getElem (by omega)
    have hy : ys[k.toNat]? = some ys[k.toNat] := List.getElem?_eq_getElem (by omega)
    have := hs _ _ _ hx hy
    simp [ixD_in k0 hx, ixD_in k0 hy, this]) (by rw [rng_len]; exact sz_le (by omega))]
  have := eqNilI []
  simp at this
  simp [this]
theorem same2_t (xs ys : List D) (h : xs.length = ys.length) (hl : ys.length ≤ 1000) (hs : ∀ (k : Nat) (x y : D), xs[k]? = some x → ys[k]? = some y → f_law_same_1.f [.fz x, .fz y] = some (.ret (.fz (.bl true)) [])) : f_law_same_2.f [.fz (.tup xs), .fz (.tup ys)] = some (.ret (.fz (.bl true)) []) := by
  have h' : (xs.length : Int) = ys.length := by omega
  simp [f_law_same_2, mkFn_f, startE, b_law_same_2, eqBB, neBB, small_62 (i := (ys.length : Int)) (by omega) (by omega), h']
  rw [compL_filter (p := fun _ => false) (u := fun k => .fz (.int k)) (fun k hk => by
    obtain ⟨k0, k1⟩ := mem_rng.mp hk
    have hx : xs[k.toNat]? = some xs[k.toNat] := List.getElem?_eq_getElem (by omega)
    have hy : ys[k.toNat]? = some ys[k.toNat] := List.getElem?_eq_getElem (by omega)
    have := hs _ _ _ hx hy
    simp [ixD_in k0 hx, ixD_in k0 hy, this]) (by rw [rng_len]; exact sz_le (by omega))]
  have := eqNilI []
  simp at this
  simp [this]
theorem same2_l (xs ys : List D) (h : xs.length = ys.length) (hl : ys.length ≤ 1000) (hs : ∀ (k : Nat) (x y : D), xs[k]? = some x → ys[k]? = some y → f_law_same_1.f [.fz x, .fz y] = some (.ret (.fz (.bl true)) [])) : f_law_same_2.f [.fz (.lst xs), .fz (.lst ys)] = some (.ret (.fz (.bl true)) []) := by
  have h' : (xs.length : Int) = ys.length := by omega
  simp [f_law_same_2, mkFn_f, startE, b_law_same_2, eqBB, neBB, small_62 (i := (ys.length : Int)) (by omega) (by omega), h']
  rw [compL_filter (p := fun _ => false) (u := fun k => .fz (.int k)) (fun k hk => by
    obtain ⟨k0, k1⟩ := mem_rng.mp hk
    have hx : xs[k.toNat]? = some xs[k.toNat] := List.getElem?_eq_getElem (by omega)
    have hy : ys[k.toNat]? = some ys[k.toNat] := List.getElem?_eq_getElem (by omega)
    have := hs _ _ _ hx hy
    simp [ixD_in k0 hx, ixD_in k0 hy, this]) (by rw [rng_len]; exact sz_le (by omega))]
  have := eqNilI []
  simp at this
  simp [this]
theorem same3_t (xs ys : List D) (h : xs.length = ys.length) (hl : ys.length ≤ 1000) (hs : ∀ (k : Nat) (x y : D), xs[k]? = some x → ys[k]? = some y → f_law_same_2.f [.fz x, .fz y] = some (.ret (.fz (.bl true)) [])) : f_law_same_3.f [.fz (.tup xs), .fz (.tup ys)] = some (.ret (.fz (.bl true)) []) := by
  have h' : (xs.length : Int) = ys.length := by omega
  simp [f_law_same_3, mkFn_f, startE, b_law_same_3, eqBB, neBB, small_62 (i := (ys.length : Int)) (by omega) (by omega), h']
  rw [compL_filter (p := fun _ => false) (u := fun k => .fz (.int k)) (fun k hk => by
    obtain ⟨k0, k1⟩ := mem_rng.mp hk
    have hx : xs[k.toNat]? = some xs[k.toNat] := List.getElem?_eq_getElem (by omega)
    have hy : ys[k.toNat]? = some ys[k.toNat] := List.getElem?_eq_getElem (by omega)
    have := hs _ _ _ hx hy
    simp [ixD_in k0 hx, ixD_in k0 hy, this]) (by rw [rng_len]; exact sz_le (by omega))]
  have := eqNilI []
  simp at this
  simp [this]
theorem same3_l (xs ys : List D) (h : xs.length = ys.length) (hl : ys.length ≤ 1000) (hs : ∀ (k : Nat) (x y : D), xs[k]? = some x → ys[k]? = some y → f_law_same_2.f [.fz x, .fz y] = some (.ret (.fz (.bl true)) [])) : f_law_same_3.f [.fz (.lst xs), .fz (.lst ys)] = some (.ret (.fz (.bl true)) []) := by
  have h' : (xs.length : Int) = ys.length := by omega
  simp [f_law_same_3, mkFn_f, startE, b_law_same_3, eqBB, neBB, small_62 (i := (ys.length : Int)) (by omega) (by omega), h']
  rw [compL_filter (p := fun _ => false) (u := fun k => .fz (.int k)) (fun k hk => by
    obtain ⟨k0, k1⟩ := mem_rng.mp hk
    have hx : xs[k.toNat]? = some xs[k.toNat] := List.getElem?_eq_getElem (by omega)
    have hy : ys[k.toNat]? = some ys[k.toNat] := List.getElem?_eq_getElem (by omega)
    have := hs _ _ _ hx hy
    simp [ixD_in k0 hx, ixD_in k0 hy, this]) (by rw [rng_len]; exact sz_le (by omega))]
  have := eqNilI []
  simp at this
  simp [this]
theorem same1_p (a b : Int) : f_law_same_1.f [.fz (.tup [.int a, .int b]), .fz (.tup [.int a, .int b])] = some (.ret (.fz (.bl true)) []) := by
  refine same1_t _ _ rfl (by simp) fun k x y hx hy => ?_
  rw [hx] at hy
  cases hy
  rcases k with _ | _ | k
  · simp at hx; subst hx; exact same0_i a
  · simp at hx; subst hx; exact same0_i b
  · simp at hx
theorem same2_pl (f : List Pr) (hl : f.length ≤ 1000) : f_law_same_2.f [.fz (.lst (f.map encP)), .fz (.lst (f.map encP))] = some (.ret (.fz (.bl true)) []) := by
  refine same2_l _ _ rfl (by simpa using hl) fun k x y hx hy => ?_
  rw [hx] at hy
  cases hy
  rw [List.getElem?_map] at hx
  cases hq : f[k]? with
  | none => rw [hq] at hx; cases hx
  | some p => rw [hq] at hx; cases hx; exact same1_p p.1 p.2
theorem same3_pi (f : List Pr) (i : Int) (hl : f.length ≤ 1000) : f_law_same_3.f [.fz (.lst [.lst (f.map encP), .int i]), .fz (.lst [.lst (f.map encP), .int i])] = some (.ret (.fz (.bl true)) []) := by
  refine same3_l _ _ rfl (by simp) fun k x y hx hy => ?_
  rw [hx] at hy
  cases hy
  rcases k with _ | _ | k
  · simp at hx; subst hx; exact same2_pl f hl
  · simp at hx; subst hx; exact same2_i i
  · simp at hx
theorem same3_bb : f_law_same_3.f [.fz (.lst [.bl true, .bl true]), .fz (.lst [.bl true, .bl true])] = some (.ret (.fz (.bl true)) []) := by
  refine same3_l _ _ rfl (by simp) fun k x y hx hy => ?_
  rw [hx] at hy
  cases hy
  rcases k with _ | _ | k
  · simp at hx; subst hx; exact same2_b true true
  · simp at hx; subst hx; exact same2_b true true
  · simp at hx
/-! the others -/
def crL (p q : Pr) : Bool := decide ((([q.1, q.2].filter fun x => decide (min p.1 p.2 < x) && decide (x < max p.1 p.2)).length : Int) = 1) && decide ((([q.1, q.2].filter fun x => decide (x < min p.1 p.2) || decide (max p.1 p.2 < x)).length : Int) = 1)
theorem law_crosses (p q : Pr) : f_law_crosses_0.f [.fz (.tup [.int p.1, .int p.2]), .fz (.tup [.int q.1, .int q.2])] = some (.ret (.fz (.bl (crL p q))) []) := by
  simp [f_law_crosses_0, mkFn_f, startE, b_law_crosses_0, minT2, maxT2]
  rw [show [D.int q.1, D.int q.2] = [q.1, q.2].map encI from rfl, compL_filter (p := fun x => decide (min p.1 p.2 < x) && decide (x < max p.1 p.2)) (u := fun x => .fz (.int x)) (fun x _ => by
    simp
    (repeat' split) <;> simp_all <;> omega) (sz_le (by simp))]
  simp
  rw [show [D.int q.1, D.int q.2] = [q.1, q.2].map encI from rfl, compL_filter (p := fun x => decide (x < min p.1 p.2) || decide (max p.1 p.2 < x)) (u := fun x => .fz (.int x)) (fun x _ => by
    simp
    (repeat' split) <;> simp_all <;> omega) (sz_le (by simp))]
  simp [crL]
  split <;> simp_all
/-- right: a flexagon's diagonals in order -/
structure Rgt (n : Int) (f : List Pr) : Prop where
  three : 3 ≤ n
  le : n ≤ 24
  len : (f.length : Int) = n - 3
  vd : ∀ p ∈ f, 0 ≤ p.1 ∧ p.1 + 2 ≤ p.2 ∧ p.2 < n ∧ ¬ (p.1 = 0 ∧ p.2 = n - 1)
  nx : ∀ p ∈ f, ∀ q ∈ f, ¬ (p.1 < q.1 ∧ q.1 < p.2 ∧ p.2 < q.2)
  asc : ascP f
theorem ascP_srt : ∀ {f : List Pr}, ascP f → f.Pairwise fun p q => ltP p q = true
  | [], _ => .nil
  | p :: f, h => List.pairwise_cons.mpr ⟨h.1, ascP_srt h.2⟩
theorem ltP_irr (p : Pr) : ltP p p = false := by simp [ltP]
theorem ltP_asym {p q : Pr} (h : ltP p q = true) : ltP q p = false := by
  unfold ltP at *
  simp only [Bool.or_eq_true, Bool.and_eq_true, decide_eq_true_eq, Bool.or_eq_false_iff, Bool.and_eq_false_iff, decide_eq_false_iff_not] at *
  omega
theorem ascP_nd {f : List Pr} (h : ascP f) : f.Nodup := (ascP_srt h).imp fun {p q} z e => by subst e; rw [ltP_irr] at z; cases z
/-- ascending lists of the same pairs are the same -/
theorem asc_uniq : ∀ {f g : List Pr}, ascP f → ascP g → (∀ p, p ∈ f ↔ p ∈ g) → f = g
  | [], [], _, _, _ => rfl
  | [], q :: g, _, _, h => by have := (h q).mpr List.mem_cons_self; simp at this
  | p :: f, [], _, _, h => by have := (h p).mp List.mem_cons_self; simp at this
  | p :: f, q :: g, hf, hg, h => by
    have e : p = q := by
      rcases List.mem_cons.mp ((h p).mp List.mem_cons_self) with z | z
      · exact z
      · rcases List.mem_cons.mp ((h q).mpr List.mem_cons_self) with y | y
        · exact y.symm
        · have := ltP_asym (hg.1 p z)
          rw [hf.1 q y] at this; cases this
    subst e
    have n1 := List.nodup_cons.mp (ascP_nd hf)
    have n2 := List.nodup_cons.mp (ascP_nd hg)
    rw [asc_uniq hf.2 hg.2 fun r => ?_]
    constructor
    · intro hr
      rcases List.mem_cons.mp ((h r).mp (List.mem_cons_of_mem _ hr)) with z | z
      · subst z; exact absurd hr n1.1
      · exact z
    · intro hr
      rcases List.mem_cons.mp ((h r).mpr (List.mem_cons_of_mem _ hr)) with z | z
      · subst z; exact absurd hr n2.1
      · exact z
theorem sortset_self {f : List Pr} (ha : ascP f) (h0 : ∀ p ∈ f, 0 ≤ p.1 ∧ 0 ≤ p.2) (hl : f.length < 64) : sortsetD (f.map encP) = some (f.map encP) := by
  obtain ⟨R, h1, h2, h3, h4⟩ := sortset_pp f h0 hl
  rw [h1, asc_uniq (asc_of h4 h2) ha h3]
theorem law_right (n : Int) (f : List Pr) (h : Rgt n f) : f_law_right_0.f [.fz (.tup (f.map encP)), .fz (.int n)] = some (.ret (.fz (.bl true)) []) := by
  have hn3 := h.three
  have hn24 := h.le
  have hlen := h.len
  have hs : biD .sortset [.tup (f.map encP)] = some (ol (f.map encP)) := ssetT _ _ (sortset_self h.asc (fun p hp => by have := h.vd p hp; omega) (by omega))
  have hne : cmpD .NotEq (.lst (f.map encP)) (.lst (f.map encP)) = some false := by rw [neLP]; simp
  obtain ⟨e', q1, o2, o3, q2⟩ := forL_inv (enc := encP) (xs := f) (f := fbody (fun e3 => exs (cf gs l_31) b_law_right_0_L0 e3) (Tg.t2 (Tg.n 2) (Tg.n 3)))
    (e := [.is (.fz (.tup (f.map encP))), .is (.fz (.int n)), .un, .un, .un])
    (fun pre e => ∃ o2 o3, e = [.is (.fz (.tup (f.map encP))), .is (.fz (.int n)), jk o2, jk o3, .un]) ⟨none, none, rfl⟩ fun pre x post e hx ⟨o2, o3, he⟩ => by
      subst he
      have hm : x ∈ f := by rw [hx]; simp
      obtain ⟨v1, v2, v3, v4⟩ := h.vd x hm
      have hmod : (x.2 - x.1) % n = x.2 - x.1 := Int.emod_eq_of_lt (by omega) (by omega)
      refine ⟨_, ?_, some (.fz (.int x.1)), some (.fz (.int x.2)), rfl⟩
      have c1 : x.1 < x.2 := by omega
      have c2 : ¬ (1 = x.2 - x.1) := by omega
      have c3 : ¬ (n - 1 = x.2 - x.1) := by omega
      simp [b_law_right_0_L0, modI (show 0 < n by omega), v1, c1, v3, hmod, c2, c3]
      rw [compL_filter (p := fun _ => false) (u := fun p => .fz (encP p)) (fun p hp => by
        have := h.nx x hm p hp
        have := h.nx p hp x hm
        simp
        (repeat' split) <;> simp_all <;> omega) (sz_le (by omega))]
      have := eqNilI []
      have := neNilI []
      simp at this
      simp [this]
  simp [f_law_right_0, mkFn_f, startE, b_law_right_0, hs, hne, hlen, q1, q2]
end K53

namespace K53
open Fx Fx.Fo PySem
set_option maxRecDepth 100000
set_option linter.all false
def Bs (bs : List D) (m : Int) : Prop := ∃ a b c m', bs = [.int a, .bl b, .int c, .int m'] ∧ 0 ≤ a ∧ 0 ≤ c ∧ c < 2147483629 ∧ 0 ≤ m' ∧ m' ≤ m
theorem Bs.mono {bs : List D} {m n : Int} (h : Bs bs m) (hn : m ≤ n) : Bs bs n := by
  obtain ⟨a, b, c, m', e, h1, h2, h3, h4, h5⟩ := h
  exact ⟨a, b, c, m', e, h1, h2, h3, h4, by omega⟩
theorem take {bs : List D} {m : Int} (h : Bs bs m) (hm : m ≤ 1000000) (many : Int) (h1 : 0 < many) (h2 : many < 1073741824) : ∃ d bs', f_law_take_0.f [ol bs, .fz (.int many)] = some (.ret (.fz (.int d)) [ol bs']) ∧ 0 ≤ d ∧ d < many ∧ Bs bs' (m + 1) := by
  obtain ⟨a, b, c, m', rfl, q⟩ := h
  obtain ⟨d, t', e, q1, q2, q3⟩ := law_take (t := ol [.int a, .bl b, .int c, .int m']) (m := m) ⟨a, b, c, m', rfl, q⟩ hm many h1 h2
  obtain ⟨a', b', c', m'', rfl, q'⟩ := q3.ex
  exact ⟨d, _, e, q1, q2, a', b', c', m'', rfl, q'⟩
/-- what is left to be done -/
def mu : List Pr → Nat
  | [] => 0
  | p :: st => (2 * (p.2 - p.1) - 1).toNat + mu st
theorem mu_len : ∀ {st : List Pr}, (∀ p ∈ st, p.1 < p.2) → st.length ≤ mu st
  | [], _ => Nat.le_refl _
  | p :: st, h => by
    have h1 := h p List.mem_cons_self
    have h2 := mu_len fun q hq => h q (List.mem_cons_of_mem _ hq)
    rw [List.length_cons, mu]
    omega
theorem flex_body (n : Int) (h3 : 3 ≤ n) (hn : n ≤ 24) (way : Int) (p : Pr) (rest found : List Pr) (bs : List D) (m : Int) (o7 o8 o9 : Option T) (hb : Bs bs m) (hm : m ≤ 900000) (hp : 0 ≤ p.1 ∧ p.1 < p.2 ∧ p.2 ≤ n - 1) (hr : rest.length ≤ 900) (hf : found.length ≤ 1000) :
    ∃ bs' o7' o8' o9' st', exs (cf gs l_29) b_law_flexagon_0_L0 [.is (ol bs), .is (.fz (.int n)), .is (.fz (.int way)), .is (ol (found.map encP)), .is (ol ((p :: rest).reverse.map encP)), .un, .un, jk o7, jk o8, jk o9, .un, .un] =
      .ok .nx [.is (ol bs'), .is (.fz (.int n)), .is (.fz (.int way)), .is (ol ((found ++ if 1 < p.2 - p.1 ∧ p.2 - p.1 < n - 1 then [p] else []).map encP)), .is (ol (st'.reverse.map encP)), .un, .un, jk o7', jk o8', jk o9', .un, .un] ∧ Bs bs' (m + 2) ∧
      (st' = rest ∧ p.2 - p.1 = 1 ∨ ∃ t, p.1 < t ∧ t < p.2 ∧ st' = (t, p.2) :: (p.1, t) :: rest) := by
  have ap : ∀ k : T → T → Out R, mtK .append (ol (found.map encP)) [] [.fz (.tup [.int p.1, .int p.2])] k = k (.fz .non) (ol (found.map encP ++ [.tup [.int p.1, .int p.2]])) := fun k => app_ol (by rw [List.length_map]; exact Nat.lt_of_le_of_lt hf (by decide))
  have add : ∀ a b : D, binD .Add (.lst (rest.map encP).reverse) (.lst [a, b]) = some (ol ((rest.map encP).reverse ++ [a, b])) := fun a b => addL (by simp; exact sz_le (by omega))
  by_cases c1 : 1 < p.2 - p.1
  · obtain ⟨d, bs1, e1, d1, d2, b1⟩ := take hb (by omega) (p.2 - p.1 - 1) (by omega) (by omega)
    obtain ⟨d', bs2, e2, d3, d4, b2⟩ := take b1 (by omega) 2 (by decide) (by decide)
    have key : ∀ c2 : Bool, decide (p.2 - p.1 < n - 1) = c2 → ∃ bs' o7' o8' o9' st', exs (cf gs l_29) b_law_flexagon_0_L0 [.is (ol bs), .is (.fz (.int n)), .is (.fz (.int way)), .is (ol (found.map encP)), .is (ol ((p :: rest).reverse.map encP)), .un, .un, jk o7, jk o8, jk o9, .un, .un] =
      .ok .nx [.is (ol bs'), .is (.fz (.int n)), .is (.fz (.int way)), .is (ol ((found ++ if c2 = true then [p] else []).map encP)), .is (ol (st'.reverse.map encP)), .un, .un, jk o7', jk o8', jk o9', .un, .un] ∧ Bs bs' (m + 2) ∧
      (st' = rest ∧ p.2 - p.1 = 1 ∨ ∃ t, p.1 < t ∧ t < p.2 ∧ st' = (t, p.2) :: (p.1, t) :: rest) := fun c2 hc2 => by
      by_cases w1 : way = 1
      · refine ⟨bs1, some (.fz (.int p.1)), some (.fz (.int p.2)), some (.fz (.int ((p.1 + p.2) / 2))), (((p.1 + p.2) / 2), p.2) :: (p.1, ((p.1 + p.2) / 2)) :: rest, ?_, b1.mono (by omega), .inr ⟨(p.1 + p.2) / 2, by omega, by omega, rfl⟩⟩
        cases c2 <;> simp at hc2 <;> simp [b_law_flexagon_0_L0, pop_ol, c1, hc2, ap, e1, w1, add, divI (show (0 : Int) < 2 by decide) (by decide)] <;> (intro h; exfalso; omega)
      · by_cases w2 : way = 2
        · by_cases z : d' = 0
          · refine ⟨bs2, some (.fz (.int p.1)), some (.fz (.int p.2)), some (.fz (.int (p.1 + 1))), (p.1 + 1, p.2) :: (p.1, p.1 + 1) :: rest, ?_, b2.mono (by omega), .inr ⟨p.1 + 1, by omega, by omega, rfl⟩⟩
            cases c2 <;> simp at hc2 <;> simp [b_law_flexagon_0_L0, pop_ol, c1, hc2, ap, e1, w2, e2, z, add] <;> (intro h; exfalso; omega)
          · refine ⟨bs2, some (.fz (.int p.1)), some (.fz (.int p.2)), some (.fz (.int (p.2 - 1))), (p.2 - 1, p.2) :: (p.1, p.2 - 1) :: rest, ?_, b2.mono (by omega), .inr ⟨p.2 - 1, by omega, by omega, rfl⟩⟩
            cases c2 <;> simp at hc2 <;> simp [b_law_flexagon_0_L0, pop_ol, c1, hc2, ap, e1, w2, e2, z, add] <;> (intro h; exfalso; omega)
        · refine ⟨bs1, some (.fz (.int p.1)), some (.fz (.int p.2)), some (.fz (.int (p.1 + 1 + d))), (p.1 + 1 + d, p.2) :: (p.1, p.1 + 1 + d) :: rest, ?_, b1.mono (by omega), .inr ⟨p.1 + 1 + d, by omega, by omega, rfl⟩⟩
          cases c2 <;> simp at hc2 <;> simp [b_law_flexagon_0_L0, pop_ol, c1, hc2, ap, e1, w1, w2, add] <;> (intro h; exfalso; omega)
    by_cases c2 : p.2 - p.1 < n - 1
    · obtain ⟨q1, q2, q3, q4, q5, q6⟩ := key true (decide_eq_true c2)
      exact ⟨q1, q2, q3, q4, q5, by rw [if_pos ⟨c1, c2⟩]; exact q6⟩
    · obtain ⟨q1, q2, q3, q4, q5, q6⟩ := key false (decide_eq_false c2)
      exact ⟨q1, q2, q3, q4, q5, by rw [if_neg (fun z => c2 z.2)]; exact q6⟩
  · refine ⟨bs, some (.fz (.int p.1)), some (.fz (.int p.2)), o9, rest, ?_, hb.mono (by omega), .inl ⟨rfl, by omega⟩⟩
    simp [b_law_flexagon_0_L0, pop_ol, c1]
/-- the whole walk -/
theorem flex_loop (n : Int) (h3 : 3 ≤ n) (hn : n ≤ 24) (way : Int) : ∀ (fuel : Nat) (st found : List Pr) (bs : List D) (m : Int) (o7 o8 o9 : Option T), Bs bs m → m + 2 * fuel ≤ 900000 → mu st < fuel → (∀ p ∈ st, 0 ≤ p.1 ∧ p.1 < p.2 ∧ p.2 ≤ n - 1) → found.length + mu st ≤ 900 →
    ∃ X Y bs' o7' o8' o9', Pg.Fo st Y ∧ X.Perm (Y.filter fun p => decide (p.2 - p.1 < n - 1)) ∧ Bs bs' (m + 2 * mu st) ∧
      whileL (fun e1 => evT (cf gs l_29) (.cmp (.v 4) (.one .NotEq (.lst .nil))) e1) (fun e1 => exs (cf gs l_29) b_law_flexagon_0_L0 e1) fuel [.is (ol bs), .is (.fz (.int n)), .is (.fz (.int way)), .is (ol (found.map encP)), .is (ol (st.reverse.map encP)), .un, .un, jk o7, jk o8, jk o9, .un, .un] =
        .ok .nx [.is (ol bs'), .is (.fz (.int n)), .is (.fz (.int way)), .is (ol ((found ++ X).map encP)), .is (ol []), .un, .un, jk o7', jk o8', jk o9', .un, .un]
  | 0, _, _, _, _, _, _, _, _, _, h, _, _ => by omega
  | fuel + 1, [], found, bs, m, o7, o8, o9, hb, hm, hf, hs, hl => by
    refine ⟨[], [], bs, o7, o8, o9, .nil, .refl _, hb.mono (by simp [mu]), ?_⟩
    rw [whileL_end]
    · simp
    · have := neNilP []
      simp at this
      simp [this]
  | fuel + 1, p :: rest, found, bs, m, o7, o8, o9, hb, hm, hf, hs, hl => by
    obtain ⟨p0, p1, p2⟩ := hs p List.mem_cons_self
    have hrl := mu_len (st := rest) fun q hq => (hs q (List.mem_cons_of_mem _ hq)).2.1
    rw [mu] at hf hl
    obtain ⟨bs1, q7, q8, q9, st', e1, b1, cs⟩ := flex_body n h3 hn way p rest found bs m o7 o8 o9 hb (by omega) ⟨p0, p1, p2⟩ (by omega) (by omega)
    have hcond : evT (cf gs l_29) (.cmp (.v 4) (.one .NotEq (.lst .nil))) [.is (ol bs), .is (.fz (.int n)), .is (.fz (.int way)), .is (ol (found.map encP)), .is (ol ((p :: rest).reverse.map encP)), .un, .un, jk o7, jk o8, jk o9, .un, .un] = .ok true [.is (ol bs), .is (.fz (.int n)), .is (.fz (.int way)), .is (ol (found.map encP)), .is (ol ((p :: rest).reverse.map encP)), .un, .un, jk o7, jk o8, jk o9, .un, .un] := by
      have := neNilP (p :: rest).reverse
      simp at this
      simp [this]
    have hst : (∀ q ∈ st', 0 ≤ q.1 ∧ q.1 < q.2 ∧ q.2 ≤ n - 1) ∧ mu st' + 1 ≤ mu (p :: rest) := by
      rcases cs with ⟨rfl, w⟩ | ⟨t, t1, t2, rfl⟩
      · refine ⟨fun q hq => hs q (List.mem_cons_of_mem _ hq), ?_⟩
        rw [mu]; omega
      · refine ⟨fun q hq => ?_, ?_⟩
        · rcases List.mem_cons.mp hq with e | hq
          · subst e; exact ⟨by show 0 ≤ t; omega, t2, p2⟩
          · rcases List.mem_cons.mp hq with e | hq
            · subst e; exact ⟨p0, t1, by show t ≤ n - 1; omega⟩
            · exact hs q (List.mem_cons_of_mem _ hq)
        · simp only [mu]; omega
    rw [mu] at hst
    have hfl : (found ++ if 1 < p.2 - p.1 ∧ p.2 - p.1 < n - 1 then [p] else []).length ≤ found.length + 1 := by
      rw [List.length_append]
      split <;> simp
    obtain ⟨X, Y, bs2, r7, r8, r9, f1, f2, f3, f4⟩ := flex_loop n h3 hn way fuel st' (found ++ if 1 < p.2 - p.1 ∧ p.2 - p.1 < n - 1 then [p] else []) bs1 (m + 2) q7 q8 q9 b1 (by omega) (by omega) hst.1 (by omega)
    rw [whileL_step hcond e1, f4]
    rcases cs with ⟨rfl, w⟩ | ⟨t, t1, t2, rfl⟩
    · refine ⟨X, [] ++ Y, bs2, r7, r8, r9, ?_, f2, f3.mono (by rw [mu]; omega), ?_⟩
      · have : p = (p.1, p.1 + 1) := Prod.ext rfl (by show p.2 = p.1 + 1; omega)
        rw [this]
        exact .cons (.leaf _) f1
      · rw [if_neg (by omega), List.append_nil]
    · obtain ⟨B, Y0, rfl, g1, g2⟩ : ∃ B Y0, Y = B ++ Y0 ∧ Pg.Tri t p.2 B ∧ Pg.Fo ((p.1, t) :: rest) Y0 := by cases f1 with | cons a b => exact ⟨_, _, rfl, a, b⟩
      obtain ⟨A, Yr, rfl, g3, g4⟩ : ∃ A Yr, Y0 = A ++ Yr ∧ Pg.Tri p.1 t A ∧ Pg.Fo rest Yr := by cases g2 with | cons a b => exact ⟨_, _, rfl, a, b⟩
      refine ⟨(if 1 < p.2 - p.1 ∧ p.2 - p.1 < n - 1 then [p] else []) ++ X, ((p.1, p.2) :: (A ++ B)) ++ Yr, bs2, r7, r8, r9, .cons (.node g3 g1) g4, ?_, f3.mono (by simp only [mu]; omega), by rw [List.append_assoc]⟩
      have e0 : (((p.1, p.2) :: (A ++ B)) ++ Yr).filter (fun p => decide (p.2 - p.1 < n - 1)) = (if 1 < p.2 - p.1 ∧ p.2 - p.1 < n - 1 then [p] else []) ++ ((A ++ B) ++ Yr).filter (fun p => decide (p.2 - p.1 < n - 1)) := by
        rw [List.cons_append, List.filter_cons]
        by_cases c : p.2 - p.1 < n - 1
        · have c1 : 1 < p.2 - p.1 := by omega
          simp [c, c1]
        · simp [c]
      rw [e0]
      refine List.Perm.append_left _ (f2.trans (List.Perm.filter _ ?_))
      have : ((B ++ (A ++ Yr)) : List Pr).Perm ((A ++ B) ++ Yr) := by
        rw [List.append_assoc]
        exact List.perm_append_comm_assoc _ _ _
      exact this
theorem norm_turn (n t : Int) (p : Pr) : (min ((p.1 + t) % n) ((p.2 + t) % n), max ((p.1 + t) % n) ((p.2 + t) % n)) = Pg.turn n t p := rfl
/-- right ones by Pg's word -/
theorem Rgt.of {n : Int} {S R : List Pr} (hn : n ≤ 24) (h : Pg.Flx n S) (hp : R.Perm S) (hs : Srt R) : Rgt n R := by
  have h' := h.perm hp.symm
  exact ⟨h'.three, hn, h'.len, h'.vd, fun p hp q hq z => h'.nx p hp q hq (.inl z), asc_of hs h'.nd⟩
theorem Rgt.flx {n : Int} {R : List Pr} (h : Rgt n R) : Pg.Flx n R := by
  refine ⟨h.three, ascP_nd h.asc, h.vd, fun p hp q hq z => ?_, h.len⟩
  rcases z with z | z
  · exact h.nx p hp q hq z
  · exact h.nx q hq p hp z
theorem law_flexagon (n : Int) (h3 : 3 ≤ n) (hn : n ≤ 24) (bs : List D) (m : Int) (hb : Bs bs m) (hm : m ≤ 100000) : ∃ R bs', f_law_flexagon_0.f [ol bs, .fz (.int n)] = some (.ret (.fz (.tup (R.map encP))) [ol bs']) ∧ Rgt n R ∧ Bs bs' (m + 100) := by
  obtain ⟨way, bs1, e1, w1, w2, b1⟩ := take hb (by omega) 3 (by decide) (by decide)
  obtain ⟨X, Y, bs2, o7, o8, o9, f1, f2, f3, f4⟩ := flex_loop n h3 hn way 100000 [(0, n - 1)] [] bs1 (m + 1) none none none b1 (by omega) (by simp [mu]; omega) (fun p hp => by
    simp at hp; subst hp; exact ⟨Int.le_refl _, by show (0 : Int) < n - 1; omega, Int.le_refl _⟩) (by simp [mu]; omega)
  obtain ⟨t, bs3, e3, t1, t2, b3⟩ := take f3 (by simp [mu]; omega) n (by omega) (by omega)
  -- what was drawn
  have hX : Pg.Flx n X := by
    · obtain ⟨S, Y0, rfl, g1, g2⟩ : ∃ S Y0, Y = S ++ Y0 ∧ Pg.Tri 0 (n - 1) S ∧ Pg.Fo [] Y0 := by cases f1 with | cons a b => exact ⟨_, _, rfl, a, b⟩
      cases g2
      rw [List.append_nil] at f2
      refine Pg.Flx.of_tri h3 (.perm g1 ?_)
      have top := g1.top (by omega)
      have ch := g1.ch
      have key : S.Perm ((0, n - 1) :: S.filter fun p => decide (p.2 - p.1 < n - 1)) := by
        have nd := g1.nd
        clear f2 g1 f1
        induction S with
        | nil => simp at top
        | cons q S ih =>
          obtain ⟨n1, n2⟩ := List.nodup_cons.mp nd
          by_cases e : q = (0, n - 1)
          · subst e
            rw [List.filter_cons, if_neg (by simp)]
            refine List.Perm.cons _ ?_
            rw [List.filter_eq_self.mpr fun p hp => ?_]
            have hc := ch p (List.mem_cons_of_mem _ hp)
            have : ¬ (p.1 = 0 ∧ p.2 = n - 1) := fun z => n1 ((Prod.ext z.1 z.2 : p = (0, n - 1)) ▸ hp)
            unfold Pg.Ch at hc
            simp only [decide_eq_true_eq]
            omega
          · have tp : (0, n - 1) ∈ S := by
              rcases List.mem_cons.mp top with z | z
              · exact absurd z.symm e
              · exact z
            have hc := ch q List.mem_cons_self
            have : ¬ (q.1 = 0 ∧ q.2 = n - 1) := fun z => e (Prod.ext z.1 z.2)
            unfold Pg.Ch at hc
            rw [List.filter_cons, if_pos (by simp only [decide_eq_true_eq]; omega)]
            exact ((ih tp (fun p hp => ch p (List.mem_cons_of_mem _ hp)) n2).cons q).trans (.swap _ _ _)
      exact key.trans (f2.symm.cons _)
  have hT := hX.turn t1 t2
  obtain ⟨R, r1, r2, r3⟩ := sorted_pp (X.map (Pg.turn n t))
  have hXl : X.length ≤ 1000 := by have := hX.len; omega
  refine ⟨R, bs3, ?_, Rgt.of hn hT r2 r3, b3.mono (by simp [mu]; omega)⟩
  have sb := sortB _ _ r1
  simp at f4
  simp [f_law_flexagon_0, mkFn_f, startE, b_law_flexagon_0, e1, f4, e3]
  rw [compL_map (u := fun p => ol [.int (min ((p.1 + t) % n) ((p.2 + t) % n)), .int (max ((p.1 + t) % n) ((p.2 + t) % n))]) (fun q _ => by simp [modI (show 0 < n by omega), sortB _ _ (sorted_ii _ _)]) (Nat.le_trans hXl (by decide))]
  simp [ers_map]
  rw [show (X.map fun p => D.lst [.int (min ((p.1 + t) % n) ((p.2 + t) % n)), .int (max ((p.1 + t) % n) ((p.2 + t) % n))]) = X.map (fun p => D.lst [.int (Pg.turn n t p).1, .int (Pg.turn n t p).2]) from rfl,
    compL_map (u := fun p => .fz (encP (Pg.turn n t p))) (fun q _ => by simp) (Nat.le_trans hXl (by decide))]
  have sb' : biD .sorted [.lst (X.map fun x => D.tup [.int (Pg.turn n t x).1, .int (Pg.turn n t x).2])] = some (ol (R.map encP)) := by
    rw [List.map_map] at sb
    exact sb
  simp [sb']
end K53

namespace K53
open Fx Fx.Fo PySem
set_option maxRecDepth 100000
set_option linter.all false
def PrOk (n : Int) (p : Pr) : Prop := 0 ≤ p.1 ∧ p.1 < n ∧ 0 ≤ p.2 ∧ p.2 < n ∧ p.1 ≠ p.2
theorem mod_ne {n a d : Int} (h1 : 0 ≤ a) (h2 : a < n) (h3 : 0 ≤ d) (h4 : d < n - 1) : 0 ≤ (a + 1 + d) % n ∧ (a + 1 + d) % n < n ∧ a ≠ (a + 1 + d) % n := by
  refine ⟨Int.emod_nonneg _ (by omega), Int.emod_lt_of_pos _ (by omega), ?_⟩
  by_cases c : a + 1 + d < n
  · rw [Int.emod_eq_of_lt (by omega) c]; omega
  · rw [← Int.sub_emod_right, Int.emod_eq_of_lt (by omega) (by omega)]; omega
section
variable (R : List Pr) (n : Int) (hR : (R.length : Int) + 3 = n) (h3 : 3 ≤ n) (hn : n ≤ 24) (hv : ∀ p ∈ R, PrOk n p)
include hR h3 hn hv
theorem prs3 (bs : List D) (m : Int) (hb : Bs bs m) (hm : m ≤ 900000) (fd : Sl) (tn : Sl) (a : Int) (ha : 0 ≤ a ∧ a < n) (p : Pr) (hp : PrOk n p) : ∃ bs' q, ex (cf gs l_33) (.ite (.and (.cmp (.bi .len (.cons (.v 1) .nil)) (.one .Gt (.c (D.int 0)))) (.cmp (.call 24 (.cons (.v 0) (.cons (.c (D.int 4)) .nil)) []) (.one .Gt (.c (D.int 0))))) (.cons (.asg (.n 6) (.sub (.v 1) (.call 24 (.cons (.v 0) (.cons (.bi .len (.cons (.v 1) .nil)) .nil)) [])))
  .nil) .nil) [.is (ol bs), .is (.fz (.tup (R.map encP))), .is (.fz (.int n)), fd, tn, .is (.fz (.int a)), .is (.fz (encP p))] = .ok .nx [.is (ol bs'), .is (.fz (.tup (R.map encP))), .is (.fz (.int n)), fd, tn, .is (.fz (.int a)), .is (.fz (encP q))] ∧ Bs bs' (m + 2) ∧ PrOk n q := by
  by_cases c : R = []
  · subst c
    refine ⟨bs, p, ?_, hb.mono (by omega), hp⟩
    simp
  · have c0 : 0 < R.length := List.length_pos_iff.mpr c
    obtain ⟨d, bs1, e1, d1, d2, b1⟩ := take hb (by omega) 4 (by decide) (by decide)
    by_cases c2 : 0 < d
    · obtain ⟨d', bs2, e2, d3, d4, b2⟩ := take b1 (by omega) (R.length : Int) (by omega) (by omega)
      obtain ⟨x, _, hx, hx2⟩ := ixD_map (enc := encP) d3 d4
      refine ⟨bs2, x, ?_, b2.mono (by omega), hv x hx⟩
      simp at hx2
      simp [c, c0, e1, c2, e2, hx2]
    · refine ⟨bs1, p, ?_, b1.mono (by omega), hp⟩
      simp [c, c0, e1, c2]
theorem prs4 (bs : List D) (m : Int) (hb : Bs bs m) (hm : m ≤ 900000) (fx : Sl) (fd : Sl) (tn : Sl) (a : Int) (ha : 0 ≤ a ∧ a < n) (p : Pr) (hp : PrOk n p) : ∃ bs' q, ex (cf gs l_33) (.ite (.cmp (.call 24 (.cons (.v 0) (.cons (.c (D.int 7)) .nil)) []) (.one .Eq (.c (D.int 0)))) (.cons (.asg (.n 6) (.tup (.cons (.v 5) (.cons (.bin .Mod (.bin .Add (.bin .Add (.v 5) (.c (D.int 1))) (.call 24 (.cons (.v 0) (.cons (.bin .Sub (.v 2) (.c (D.int 1))) .nil)) [])) (.v 2)) .nil))))
  .nil) .nil) [.is (ol bs), fx, .is (.fz (.int n)), fd, tn, .is (.fz (.int a)), .is (.fz (encP p))] = .ok .nx [.is (ol bs'), fx, .is (.fz (.int n)), fd, tn, .is (.fz (.int a)), .is (.fz (encP q))] ∧ Bs bs' (m + 2) ∧ PrOk n q := by
  obtain ⟨d, bs1, e1, d1, d2, b1⟩ := take hb (by omega) 7 (by decide) (by decide)
  by_cases c2 : d = 0
  · obtain ⟨d', bs2, e2, d3, d4, b2⟩ := take b1 (by omega) (n - 1) (by omega) (by omega)
    obtain ⟨q1, q2, q3⟩ := mod_ne ha.1 ha.2 d3 d4
    refine ⟨bs2, (a, (a + 1 + d') % n), ?_, b2.mono (by omega), ⟨ha.1, ha.2, q1, q2, q3⟩⟩
    simp [e1, c2, e2, modI (show 0 < n by omega)]
  · refine ⟨bs1, p, ?_, b1.mono (by omega), hp⟩
    simp [e1, c2]
theorem prs5 (bs : List D) (m : Int) (hb : Bs bs m) (hm : m ≤ 900000) (fx : Sl) (found : List Pr) (hf : found.length ≤ 900) (tn : Sl) (a : Int) (p : Pr) (hp : PrOk n p) : ∃ bs' q, ex (cf gs l_33) (.ex (.meth .append (.v 3) (.cons (.ife (.cmp (.call 24 (.cons (.v 0) (.cons (.c (D.int 2)) .nil)) []) (.one .Eq (.c (D.int 0)))) (.v 6) (.rev (.v 6))) .nil)))
   [.is (ol bs), fx, .is (.fz (.int n)), .is (ol (found.map encP)), tn, .is (.fz (.int a)), .is (.fz (encP p))] = .ok .nx [.is (ol bs'), fx, .is (.fz (.int n)), .is (ol ((found ++ [q]).map encP)), tn, .is (.fz (.int a)), .is (.fz (encP p))] ∧ Bs bs' (m + 2) ∧ PrOk n q := by
  obtain ⟨d, bs1, e1, d1, d2, b1⟩ := take hb (by omega) 2 (by decide) (by decide)
  have ap : ∀ (d : D) (k : T → T → Out Fx.R), mtK .append (ol (found.map encP)) [] [.fz d] k = k (.fz .non) (ol (found.map encP ++ [d])) := fun d k => app_ol (by rw [List.length_map]; exact Nat.lt_of_le_of_lt hf (by decide))
  by_cases c2 : d = 0
  · refine ⟨bs1, p, ?_, b1.mono (by omega), hp⟩
    simp [e1, c2, ap]
  · refine ⟨bs1, (p.2, p.1), ?_, b1.mono (by omega), ⟨hp.2.2.1, hp.2.2.2.1, hp.1, hp.2.1, fun z => hp.2.2.2.2 z.symm⟩⟩
    simp [e1, c2, ap]
theorem prs_body (bs : List D) (m : Int) (hb : Bs bs m) (hm : m ≤ 800000) (found : List Pr) (hf : found.length ≤ 900) (tn : Sl) (o5 o6 : Option T) : ∃ bs' q o5' o6', exs (cf gs l_33) b_law_pairs_0_L0
   [.is (ol bs), .is (.fz (.tup (R.map encP))), .is (.fz (.int n)), .is (ol (found.map encP)), tn, jk o5, jk o6] = .ok .nx [.is (ol bs'), .is (.fz (.tup (R.map encP))), .is (.fz (.int n)), .is (ol ((found ++ [q]).map encP)), tn, jk o5', jk o6'] ∧ Bs bs' (m + 10) ∧ PrOk n q := by
  obtain ⟨a, bs1, e1, d1, d2, b1⟩ := take hb (by omega) n (by omega) (by omega)
  have hp : PrOk n (a, (a + 1) % n) := by
    have := mod_ne d1 d2 (Int.le_refl 0) (by omega)
    rw [Int.add_zero] at this
    exact ⟨d1, d2, this.1, this.2.1, this.2.2⟩
  obtain ⟨bs3, p3, e3, b3, h4⟩ := prs3 R n hR h3 hn hv bs1 (m + 1) b1 (by omega) (.is (ol (found.map encP))) tn a ⟨d1, d2⟩ _ hp
  obtain ⟨bs4, p4, e4, b4, h5⟩ := prs4 R n hR h3 hn hv bs3 _ b3 (by omega) (.is (.fz (.tup (R.map encP)))) (.is (ol (found.map encP))) tn a ⟨d1, d2⟩ _ h4
  obtain ⟨bs5, p5, e5, b5, h6⟩ := prs5 R n hR h3 hn hv bs4 _ b4 (by omega) (.is (.fz (.tup (R.map encP)))) found hf tn a _ h5
  refine ⟨bs5, p5, some (.fz (.int a)), some (.fz (encP p4)), ?_, b5.mono (by omega), h6⟩
  have s1 : ex (cf gs l_33) (.asg (.n 5) (.call 24 (.cons (.v 0) (.cons (.v 2) .nil)) [])) [.is (ol bs), .is (.fz (.tup (R.map encP))), .is (.fz (.int n)), .is (ol (found.map encP)), tn, jk o5, jk o6] = .ok .nx [.is (ol bs1), .is (.fz (.tup (R.map encP))), .is (.fz (.int n)), .is (ol (found.map encP)), tn, .is (.fz (.int a)), jk o6] := by
    simp [e1]
  have s2 : ex (cf gs l_33) (.asg (.n 6) (.tup (.cons (.v 5) (.cons (.bin .Mod (.bin .Add (.v 5) (.c (D.int 1))) (.v 2)) .nil)))) [.is (ol bs1), .is (.fz (.tup (R.map encP))), .is (.fz (.int n)), .is (ol (found.map encP)), tn, .is (.fz (.int a)), jk o6] = .ok .nx [.is (ol bs1), .is (.fz (.tup (R.map encP))), .is (.fz (.int n)), .is (ol (found.map encP)), tn, .is (.fz (.int a)), .is (.fz (encP (a, (a + 1) % n)))] := by
    simp [modI (show 0 < n by omega)]
  rw [b_law_pairs_0_L0, exs_cons, s1, seqO_nx, exs_cons, s2, seqO_nx, exs_cons, e3, seqO_nx, exs_cons, e4, seqO_nx, exs_cons, e5, seqO_nx, exs_nil]
  rfl
theorem law_pairs (bs : List D) (m : Int) (hb : Bs bs m) (hm : m ≤ 700000) : ∃ bs' ps, f_law_pairs_0.f [ol bs, .fz (.tup (R.map encP))] = some (.ret (ol (ps.map encP)) [ol bs']) ∧ Bs bs' (m + 100) ∧ PsOk n ps ∧ ps.length ≤ 7 := by
  obtain ⟨d, bs1, e1, d1, d2, b1⟩ := take hb (by omega) 8 (by decide) (by decide)
  have hs : small62 d = true := small_62 (by omega) (by omega)
  have hrl : (rng 0 d).length ≤ 7 := by rw [rng_len]; omega
  obtain ⟨e', q1, bs2, ps, o4, o5, o6, q2, q3, q4, q5⟩ := forL_inv (enc := D.int) (xs := rng 0 d) (f := fbody (fun e3 => exs (cf gs l_33) b_law_pairs_0_L0 e3) (Tg.n 4))
    (e := [.is (ol bs1), .is (.fz (.tup (R.map encP))), .is (.fz (.int n)), .is (ol []), .un, .un, .un])
    (fun pre e => ∃ bs2 ps o4 o5 o6, e = [.is (ol bs2), .is (.fz (.tup (R.map encP))), .is (.fz (.int n)), .is (ol (ps.map encP)), jk o4, jk o5, jk o6] ∧ Bs bs2 (m + 1 + 10 * pre.length) ∧ PsOk n ps ∧ ps.length = pre.length)
    ⟨bs1, [], none, none, none, rfl, b1.mono (by simp), fun p hp => by simp at hp, rfl⟩ fun pre x post e hx ⟨bs2, ps, o4, o5, o6, he, g1, g2, g3⟩ => by
      subst he
      have hpl : pre.length ≤ 7 := by
        rw [hx, List.length_append] at hrl
        omega
      obtain ⟨bs3, q, o5', o6', w, w2, w3⟩ := prs_body R n hR h3 hn hv bs2 _ g1 (by omega) ps (by omega) (.is (.fz (.int x))) o5 o6
      refine ⟨_, ?_, bs3, ps ++ [q], some (.fz (.int x)), o5', o6', rfl, w2.mono (by simp; omega), fun p hp => ?_, by simp [g3]⟩
      · simp at w
        simp [w]
      · rcases List.mem_append.mp hp with z | z
        · exact g2 p z
        · simp at z; subst z; exact w3
  refine ⟨bs2, ps, ?_, q3.mono (by omega), q4, by omega⟩
  simp [f_law_pairs_0, mkFn_f, startE, b_law_pairs_0, e1, hs, hR, q1, q2]
end
end K53

namespace K53
open Fx Fx.Fo PySem
set_option maxRecDepth 100000
set_option linter.all false
/-! the plain law -/
theorem subm {n a b : Int} (h1 : 0 ≤ a) (h2 : a < n) (h3 : 0 ≤ b) (h4 : b < n) : (a - b) % n = if b ≤ a then a - b else a - b + n := by
  split
  · exact Int.emod_eq_of_lt (by omega) (by omega)
  · rw [← Int.add_emod_right, Int.emod_eq_of_lt (by omega) (by omega)]
theorem isJ_iff {f : List Pr} {n a b : Int} (hn : (f.length : Int) + 3 = n) (h1 : 0 ≤ a) (h2 : a < n) (h3 : 0 ≤ b) (h4 : b < n) (h5 : a ≠ b) : isJ f a b = true ↔ (max a b - min a b = 1 ∨ max a b - min a b = n - 1 ∨ (min a b, max a b) ∈ f) := by
  unfold isJ
  rw [hn, subm h1 h2 h3 h4]
  simp only [Bool.or_eq_true, decide_eq_true_eq]
  by_cases hm : (min a b, max a b) ∈ f
  · simp [hm]
  · simp only [hm, or_false]
    split <;> omega
theorem crM_iff {p q : Pr} (hp : p.1 ≠ p.2) (hq : q.1 ≠ q.2) : crM p q = true ↔ Pg.X (nrm p) (nrm q) := by
  unfold crM Pg.X nrm
  simp only [List.filter_cons, List.filter_nil, Bool.and_eq_true, Bool.not_eq_true', Bool.or_eq_false_iff, decide_eq_false_iff_not, decide_eq_true_eq]
  split <;> split <;> simp only [List.length_cons, List.length_nil] <;> omega
theorem crL_eq {p q : Pr} (hp : p.1 ≠ p.2) (hq : q.1 ≠ q.2) : crL p q = crM p q := by
  rw [Bool.eq_iff_iff, crM_iff hp hq]
  unfold crL Pg.X nrm
  simp only [List.filter_cons, List.filter_nil, Bool.and_eq_true, Bool.or_eq_true, decide_eq_true_eq]
  split <;> split <;> simp only [List.length_cons, List.length_nil] <;> (try omega) <;> split <;> (try simp only [List.length_cons, List.length_nil]) <;> (try omega) <;> split <;> (try simp only [List.length_cons, List.length_nil]) <;> omega
theorem nrm_self {p : Pr} (h : p.1 < p.2) : nrm p = p := Prod.ext (by show min p.1 p.2 = p.1; omega) (by show max p.1 p.2 = p.2; omega)
/-- a right one passes is_flexagon's asking -/
theorem asc_true : ∀ {f : List Pr}, ascP f → asc f = true
  | [], _ => rfl
  | [p], _ => rfl
  | p :: q :: f, h => by
    have ih := asc_true h.2
    unfold asc at *
    simp only [List.tail_cons, List.zip_cons_cons, List.all_cons, Bool.and_eq_true] at *
    exact ⟨h.1 q List.mem_cons_self, ih⟩
theorem flexOk_of {n : Int} {f : List Pr} (h : Rgt n f) : flexOk f = true := by
  have hn : (f.length : Int) + 3 = n := by have := h.len; omega
  have h3 := h.three
  unfold flexOk
  rw [hn, asc_true h.asc, Bool.and_true, Bool.and_eq_true, Bool.not_eq_true', List.all_eq_true, List.any_eq_false]
  refine ⟨fun p hp => ?_, fun z hz => ?_⟩
  · obtain ⟨v1, v2, v3, v4⟩ := h.vd p hp
    unfold diaOk pairOk
    have m1 : (p.1 + 1) % n = p.1 + 1 := Int.emod_eq_of_lt (by omega) (by omega)
    have m2 : (p.2 + 1) % n = if p.2 + 1 < n then p.2 + 1 else 0 := by
      split
      · exact Int.emod_eq_of_lt (by omega) (by omega)
      · rw [show p.2 + 1 = n by omega, Int.emod_self]
    rw [m1, m2]
    simp only [Bool.and_eq_true, Bool.not_eq_true', Bool.or_eq_false_iff, decide_eq_true_eq, decide_eq_false_iff_not]
    split <;> omega
  · obtain ⟨p, hp, hq⟩ := List.mem_flatMap.mp hz
    obtain ⟨q, hq1, rfl⟩ := List.mem_map.mp hq
    have hp1 : p.1 ∈ f := by
      obtain ⟨a, b⟩ := p
      exact (List.mem_zipIdx' hp).2 ▸ List.getElem_mem _
    have hq2 : q ∈ f := List.mem_of_mem_drop hq1
    have n1 := h.nx p.1 hp1 q hq2
    have n2 := h.nx q hq2 p.1 hp1
    unfold cro
    simp only [Bool.or_eq_true, Bool.and_eq_true, decide_eq_true_eq]
    omega
/-! what the greedy way finds -/
def cand (n : Int) : List Pr := (rng 0 n).flatMap fun a => (rng (a + 2) n).map fun b => (a, b)
theorem foldl_flatMap' {α β γ : Type} (g : γ → β → γ) (h : α → List β) : ∀ (l : List α) (s : γ), (l.flatMap h).foldl g s = l.foldl (fun s a => (h a).foldl g s) s
  | [], _ => rfl
  | a :: l, s => by rw [List.flatMap_cons, List.foldl_append, List.foldl_cons, foldl_flatMap' g h l]
theorem allG_eq (n : Int) (ps : List Pr) : allG n ps = (cand n).foldl putG (ps.map nrm) := by
  unfold allG cand
  rw [foldl_flatMap']
  congr 1
  funext s a
  unfold rowG
  rw [List.foldl_map]
theorem mem_cand {n : Int} {p : Pr} : p ∈ cand n ↔ 0 ≤ p.1 ∧ p.1 + 2 ≤ p.2 ∧ p.2 < n := by
  unfold cand
  rw [List.mem_flatMap]
  constructor
  · rintro ⟨a, ha, hp⟩
    obtain ⟨b, hb, rfl⟩ := List.mem_map.mp hp
    rw [mem_rng] at ha hb
    show 0 ≤ a ∧ a + 2 ≤ b ∧ b < n
    omega
  · rintro ⟨h1, h2, h3⟩
    exact ⟨p.1, mem_rng.mpr ⟨h1, by omega⟩, List.mem_map.mpr ⟨p.2, mem_rng.mpr ⟨h2, h3⟩, rfl⟩⟩
theorem nd_flatMap {α β : Type} {g : α → List β} : ∀ {l : List α}, l.Nodup → (∀ a ∈ l, (g a).Nodup) → (∀ a ∈ l, ∀ b ∈ l, ∀ x, x ∈ g a → x ∈ g b → a = b) → (l.flatMap g).Nodup
  | [], _, _, _ => .nil
  | a :: l, nd, h1, h2 => by
    obtain ⟨n1, n2⟩ := List.nodup_cons.mp nd
    rw [List.flatMap_cons]
    refine List.nodup_append.mpr ⟨h1 a List.mem_cons_self, nd_flatMap n2 (fun b hb => h1 b (List.mem_cons_of_mem _ hb)) (fun b hb c hc => h2 b (List.mem_cons_of_mem _ hb) c (List.mem_cons_of_mem _ hc)), fun x hx y hy e => ?_⟩
    subst e
    obtain ⟨b, hb, hxb⟩ := List.mem_flatMap.mp hy
    exact n1 (h2 a List.mem_cons_self b (List.mem_cons_of_mem _ hb) x hx hxb ▸ hb)
theorem nd_cand (n : Int) : (cand n).Nodup := by
  refine nd_flatMap (rng_nodup 0 n) (fun a _ => Pg.map_nd (rng_nodup _ _) fun b _ c _ e => by injection e) fun a _ b _ x hx hy => ?_
  obtain ⟨c, _, rfl⟩ := List.mem_map.mp hx
  obtain ⟨d, _, e⟩ := List.mem_map.mp hy
  injection e with e1 _
  exact e1.symm
theorem put_mem {f : List Pr} {p q : Pr} (h : q ∈ f) : q ∈ putG f p := by unfold putG; split <;> simp [h]
theorem fold_mono {q : Pr} : ∀ (l : List Pr) (f : List Pr), q ∈ f → q ∈ l.foldl putG f
  | [], _, h => h
  | p :: l, f, h => fold_mono l _ (put_mem h)
theorem fold_sub : ∀ (l f : List Pr), ∃ A, l.foldl putG f = f ++ A ∧ A.Sublist l
  | [], f => ⟨[], by simp, .refl _⟩
  | p :: l, f => by
    obtain ⟨A, h1, h2⟩ := fold_sub l (putG f p)
    rw [List.foldl_cons, h1]
    unfold putG
    split
    · exact ⟨A, rfl, h2.cons p⟩
    · exact ⟨p :: A, by simp, h2.cons_cons p⟩
theorem fold_cov : ∀ (l f : List Pr), ∀ p ∈ l, p ∈ l.foldl putG f ∨ ∃ q ∈ l.foldl putG f, crM p q = true
  | [], _, p, h => by simp at h
  | r :: l, f, p, h => by
    rw [List.foldl_cons]
    rcases List.mem_cons.mp h with e | h
    · subst e
      unfold putG
      by_cases c : f.any (fun q => crM p q) = true
      · rw [if_pos c]
        obtain ⟨q, h1, h2⟩ := List.any_eq_true.mp c
        exact .inr ⟨q, fold_mono l f h1, h2⟩
      · rw [if_neg c]
        exact .inl (fold_mono l _ (by simp))
    · exact fold_cov l _ p h
/-- no two cross: by the normal forms -/
def NX (f : List Pr) : Prop := ∀ p ∈ f, ∀ q ∈ f, ¬ Pg.X p q
theorem fold_nx : ∀ (l f : List Pr), (∀ p ∈ l, p.1 < p.2) → (∀ p ∈ f, p.1 < p.2) → NX f → NX (l.foldl putG f)
  | [], _, _, _, h => h
  | p :: l, f, hl, hf, h => by
    rw [List.foldl_cons]
    have hp := hl p List.mem_cons_self
    refine fold_nx l _ (fun q hq => hl q (List.mem_cons_of_mem _ hq)) ?_ ?_
    · unfold putG
      split
      · exact hf
      · intro q hq
        rcases List.mem_append.mp hq with z | z
        · exact hf q z
        · simp at z; subst z; exact hp
    · unfold putG
      split
      · exact h
      · rename_i c
        have hc : ∀ q ∈ f, ¬ Pg.X p q := fun q hq hx => by
          have e := (crM_iff (p := p) (q := q) (by omega) (by have := hf q hq; omega)).mpr (by rw [nrm_self hp, nrm_self (hf q hq)]; exact hx)
          exact c (List.any_eq_true.mpr ⟨q, hq, e⟩)
        intro a ha b hb
        rcases List.mem_append.mp ha with z | z <;> rcases List.mem_append.mp hb with y | y
        · exact h a z b y
        · simp at y; subst y; exact fun w => hc a z w.symm
        · simp at z; subst z; exact hc b y
        · simp at z y; subst z; subst y; exact Pg.X.irr _
/-- each once -/
def ddp : List Pr → List Pr
  | [] => []
  | x :: xs => if x ∈ ddp xs then ddp xs else x :: ddp xs
theorem mem_ddp {x : Pr} : ∀ {l : List Pr}, x ∈ ddp l ↔ x ∈ l
  | [] => by simp [ddp]
  | y :: ys => by
    have ih := mem_ddp (x := x) (l := ys)
    simp only [ddp]
    split
    · rename_i c
      rw [List.mem_cons, ih]
      have c' := (mem_ddp (x := y) (l := ys)).mp c
      exact ⟨.inr, fun h => h.elim (fun e => e ▸ c') id⟩
    · rw [List.mem_cons, List.mem_cons, ih]
theorem nd_ddp : ∀ (l : List Pr), (ddp l).Nodup
  | [] => .nil
  | y :: ys => by
    simp only [ddp]
    split
    · exact nd_ddp ys
    · exact List.nodup_cons.mpr ⟨by assumption, nd_ddp ys⟩
theorem nd_le : ∀ {l m : List Pr}, l.Nodup → (∀ x ∈ l, x ∈ m) → l.length ≤ m.length
  | [], _, _, _ => Nat.zero_le _
  | x :: l, m, nd, h => by
    obtain ⟨n1, n2⟩ := List.nodup_cons.mp nd
    have hx := h x List.mem_cons_self
    have := nd_le (l := l) (m := m.erase x) n2 fun y hy => (List.mem_erase_of_ne (fun e : y = x => n1 (e ▸ hy))).mpr (h y (List.mem_cons_of_mem _ hy))
    rw [List.length_erase_of_mem hx] at this
    have : 0 < m.length := List.length_pos_of_mem hx
    rw [List.length_cons]
    omega
theorem nd_perm' {l m : List Pr} (h1 : l.Nodup) (h2 : m.Nodup) (h : ∀ x, x ∈ l ↔ x ∈ m) : l.length = m.length := Nat.le_antisymm (nd_le h1 fun x hx => (h x).mp hx) (nd_le h2 fun x hx => (h x).mpr hx)
theorem joining {n : Int} {ps : List Pr} (h3 : 3 ≤ n) (hn : n ≤ 24) (hp : PsOk n ps) (hl : ps.length ≤ 7) (hc : crAny ps = false) :
    ∃ R : List Pr, sortsetD (((allG n ps).filter (dgl n)).map encP) = some (R.map encP) ∧ Rgt n R ∧ (ps.all fun p => isJ R p.1 p.2) = true := by
  have hps : ∀ p ∈ ps.map nrm, 0 ≤ p.1 ∧ p.1 < p.2 ∧ p.2 < n := fun p hp' => by
    obtain ⟨q, hq, rfl⟩ := List.mem_map.mp hp'
    have := hp q hq
    show 0 ≤ min q.1 q.2 ∧ min q.1 q.2 < max q.1 q.2 ∧ max q.1 q.2 < n
    omega
  have hnx0 : NX (ps.map nrm) := fun p hp' q hq' => by
    obtain ⟨a, ha, rfl⟩ := List.mem_map.mp hp'
    obtain ⟨b, hb, rfl⟩ := List.mem_map.mp hq'
    rw [← crM_iff (hp a ha).2.2.2.2 (hp b hb).2.2.2.2]
    unfold crAny pq at hc
    rw [List.any_eq_false] at hc
    exact hc (a, b) (List.mem_flatMap.mpr ⟨a, ha, List.mem_map.mpr ⟨b, hb, rfl⟩⟩)
  obtain ⟨A, hA, hsub⟩ := fold_sub (cand n) (ps.map nrm)
  rw [← allG_eq] at hA
  have hcl : ∀ p ∈ cand n, p.1 < p.2 := fun p hp' => by have := mem_cand.mp hp'; omega
  have hnx := fold_nx (cand n) (ps.map nrm) hcl (fun p hp' => (hps p hp').2.1) hnx0
  have hcov := fold_cov (cand n) (ps.map nrm)
  rw [← allG_eq] at hnx hcov
  have hFb : ∀ p ∈ allG n ps, 0 ≤ p.1 ∧ p.1 < p.2 ∧ p.2 < n := fun p hp' => by
    rw [hA] at hp'
    rcases List.mem_append.mp hp' with z | z
    · exact hps p z
    · have := mem_cand.mp (hsub.subset z); omega
  -- the diagonals among them
  have hdg : ∀ p, dgl n p = true ↔ 1 < p.2 - p.1 ∧ p.2 - p.1 < n - 1 := fun p => by unfold dgl; rw [Bool.and_eq_true, decide_eq_true_eq, decide_eq_true_eq]
  have full : ∀ T : List Pr, T.Nodup → (∀ p, p ∈ T ↔ p ∈ (allG n ps).filter (dgl n)) → Pg.Flx n T := fun T nd hm => by
    refine Pg.Flx.of_full h3 nd (fun p hp' => ?_) (fun p hp' q hq' => ?_) fun p hv hx => ?_
    · obtain ⟨z1, z2⟩ := List.mem_filter.mp ((hm p).mp hp')
      have := hFb p z1
      have := (hdg p).mp z2
      unfold Pg.Vd; omega
    · exact hnx p (List.mem_filter.mp ((hm p).mp hp')).1 q (List.mem_filter.mp ((hm q).mp hq')).1
    · unfold Pg.Vd at hv
      rw [hm]
      refine List.mem_filter.mpr ⟨?_, (hdg p).mpr (by omega)⟩
      rcases hcov p (mem_cand.mpr (by omega)) with z | ⟨q, hq, z⟩
      · exact z
      · have hqb := hFb q hq
        have hX := (crM_iff (p := p) (q := q) (by omega) (by omega)).mp z
        rw [nrm_self (by omega), nrm_self hqb.2.1] at hX
        refine absurd hX (hx q ((hm q).mpr (List.mem_filter.mpr ⟨hq, (hdg q).mpr ?_⟩)))
        unfold Pg.X at hX
        omega
  have hT := full (ddp ((allG n ps).filter (dgl n))) (nd_ddp _) fun p => mem_ddp
  have hlen : ((allG n ps).filter (dgl n)).length < 64 := by
    have e1 : ((allG n ps).filter (dgl n)).length = ((ps.map nrm).filter (dgl n)).length + (A.filter (dgl n)).length := by rw [hA, List.filter_append, List.length_append]
    have e2 : ((ps.map nrm).filter (dgl n)).length ≤ 7 := Nat.le_trans (List.length_filter_le _ _) (by rw [List.length_map]; exact hl)
    have e3 : (A.filter (dgl n)).length ≤ (ddp ((allG n ps).filter (dgl n))).length := nd_le ((hsub.nodup (nd_cand n)).filter _) fun x hx => by
      rw [mem_ddp]
      obtain ⟨z1, z2⟩ := List.mem_filter.mp hx
      exact List.mem_filter.mpr ⟨by rw [hA]; exact List.mem_append_right _ z1, z2⟩
    have := hT.len
    omega
  obtain ⟨R, r1, r2, r3, r4⟩ := sortset_pp ((allG n ps).filter (dgl n)) (fun p hp' => by
    have := hFb p (List.mem_filter.mp hp').1
    omega) hlen
  have hR := Rgt.of hn (full R r2 r3) (.refl _) r4
  refine ⟨R, r1, hR, List.all_eq_true.mpr fun p hp' => ?_⟩
  obtain ⟨a1, a2, a3, a4, a5⟩ := hp p hp'
  have hlR := hR.len
  rw [isJ_iff (n := n) (by omega) a1 a2 a3 a4 a5]
  by_cases c1 : max p.1 p.2 - min p.1 p.2 = 1
  · exact .inl c1
  · by_cases c2 : max p.1 p.2 - min p.1 p.2 = n - 1
    · exact .inr (.inl c2)
    · refine .inr (.inr ((r3 _).mpr (List.mem_filter.mpr ⟨?_, (hdg _).mpr ?_⟩)))
      · rw [hA]
        exact List.mem_append_left _ (List.mem_map.mpr ⟨p, hp', rfl⟩)
      · show 1 < max p.1 p.2 - min p.1 p.2 ∧ max p.1 p.2 - min p.1 p.2 < n - 1
        omega
/-! the joined pairs -/
def jnF (f : List Pr) (n a : Int) : List Pr := ((rng (a + 1) n).filter fun b => isJ f a b).map fun b => (a, b)
def jnL (f : List Pr) (n : Int) : List Pr := (rng 0 n).flatMap (jnF f n)
theorem rng_filter {n a : Int} (h : 0 ≤ a) : (rng 0 n).filter (fun b => decide (a < b)) = rng (a + 1) n := by
  have key : ∀ (k : Nat) (lo : Int), lo ≤ a + 1 → (n - lo).toNat = k → (rng lo n).filter (fun b => decide (a < b)) = rng (a + 1) n := fun k => by
    induction k with
    | zero => intro lo h1 h2; rw [rng_nil (by omega), rng_nil (by omega)]; rfl
    | succ k ih =>
      intro lo h1 h2
      by_cases c : lo = a + 1
      · subst c
        rw [List.filter_eq_self]
        intro b hb
        have := mem_rng.mp hb
        simp only [decide_eq_true_eq]; omega
      · rw [rng_cons (by omega), List.filter_cons, if_neg (by simp only [decide_eq_true_eq]; omega)]
        exact ih (lo + 1) (by omega) (by omega)
  exact key _ 0 (by omega) rfl
theorem pairs_eq {f : List Pr} {n : Int} (hn : (f.length : Int) + 3 = n) : (stL f).filter (fun p => decide (p.1 < p.2)) = jnL f n := by
  unfold stL jnL
  rw [hn, List.filter_flatMap]
  have key : ∀ l : List Int, (∀ a ∈ l, 0 ≤ a) → l.flatMap (fun a => (stF f a).filter fun p => decide (p.1 < p.2)) = l.flatMap (jnF f n) := fun l => by
    induction l with
    | nil => intro _; rfl
    | cons a l ih =>
      intro h
      rw [List.flatMap_cons, List.flatMap_cons, ih fun b hb => h b (List.mem_cons_of_mem _ hb)]
      congr 1
      unfold stF jnF
      rw [hn, ← rng_filter (n := n) (h a List.mem_cons_self), List.filter_map, List.filter_filter, List.filter_filter]
      congr 1
      refine List.filter_congr fun b _ => ?_
      simp only [Function.comp]
      by_cases c : a < b
      · have : ¬ b = a := by omega
        simp [c, this]
      · simp [c]
  exact key _ fun a ha => (mem_rng.mp ha).1
theorem isJ_symm (f : List Pr) (n a b : Int) (hn : (f.length : Int) + 3 = n) (h1 : 0 ≤ a) (h2 : a < n) (h3 : 0 ≤ b) (h4 : b < n) (h5 : a ≠ b) : isJ f a b = isJ f b a := by
  rw [Bool.eq_iff_iff, isJ_iff hn h1 h2 h3 h4 h5, isJ_iff hn h3 h4 h1 h2 (Ne.symm h5), Int.max_comm a b, Int.min_comm a b]
theorem mem_stL {f : List Pr} {n : Int} (hn : (f.length : Int) + 3 = n) {p : Pr} : p ∈ stL f ↔ 0 ≤ p.1 ∧ p.1 < n ∧ 0 ≤ p.2 ∧ p.2 < n ∧ p.1 ≠ p.2 ∧ isJ f p.1 p.2 = true := by
  unfold stL
  rw [hn, List.mem_flatMap]
  constructor
  · rintro ⟨a, ha, h⟩
    unfold stF at h
    rw [hn] at h
    obtain ⟨b, hb, rfl⟩ := List.mem_map.mp h
    obtain ⟨z1, z2⟩ := List.mem_filter.mp hb
    simp only [Bool.and_eq_true, Bool.not_eq_true', decide_eq_false_iff_not] at z2
    have y1 := mem_rng.mp ha
    have y2 := mem_rng.mp z1
    exact ⟨y1.1, y1.2, y2.1, y2.2, fun e => z2.2 e.symm, z2.1⟩
  · rintro ⟨h1, h2, h3, h4, h5, h6⟩
    refine ⟨p.1, mem_rng.mpr ⟨h1, h2⟩, ?_⟩
    unfold stF
    rw [hn]
    refine List.mem_map.mpr ⟨p.2, List.mem_filter.mpr ⟨mem_rng.mpr ⟨h3, h4⟩, ?_⟩, rfl⟩
    simp only [Bool.and_eq_true, Bool.not_eq_true', decide_eq_false_iff_not]
    exact ⟨h6, fun e => h5 e.symm⟩
theorem nd_stL (f : List Pr) : (stL f).Nodup := by
  refine nd_flatMap (rng_nodup _ _) (fun a _ => Pg.map_nd ((rng_nodup _ _).filter _) fun b _ c _ e => by injection e) fun a _ b _ x hx hy => ?_
  obtain ⟨c, _, rfl⟩ := List.mem_map.mp hx
  obtain ⟨d, _, e⟩ := List.mem_map.mp hy
  injection e with e1 _
  exact e1.symm
theorem len_two {α : Type} (p q : α → Bool) : ∀ (l : List α), (∀ x ∈ l, q x = !p x) → l.length = (l.filter p).length + (l.filter q).length
  | [], _ => rfl
  | x :: l, h => by
    have h1 := h x List.mem_cons_self
    have ih := len_two p q l fun y hy => h y (List.mem_cons_of_mem _ hy)
    cases c : p x <;> rw [c] at h1 <;> simp [List.filter_cons, c, h1] <;> omega
theorem states_len {f : List Pr} {n : Int} (hn : (f.length : Int) + 3 = n) : ((stL f).length : Int) = 2 * ((jnL f n).length : Int) := by
  have e1 := len_two (fun p : Pr => decide (p.1 < p.2)) (fun p : Pr => decide (p.2 < p.1)) (stL f) fun p hp => by
    have := (mem_stL hn).mp hp
    by_cases c : p.1 < p.2
    · have : ¬ p.2 < p.1 := by omega
      simp [c, this]
    · have : p.2 < p.1 := by omega
      simp [c, this]
  have e2 : ((stL f).filter fun p => decide (p.2 < p.1)).length = ((stL f).filter fun p => decide (p.1 < p.2)).length := by
    have sw : (((stL f).filter fun p => decide (p.1 < p.2)).map fun p => (p.2, p.1)).length = ((stL f).filter fun p => decide (p.1 < p.2)).length := List.length_map ..
    rw [← sw]
    refine nd_perm' ((nd_stL f).filter _) (Pg.map_nd ((nd_stL f).filter _) fun p _ q _ e => by
      injection e with e1 e2
      exact Prod.ext e2 e1) fun x => ?_
    rw [List.mem_filter, List.mem_map, mem_stL hn]
    constructor
    · rintro ⟨⟨a1, a2, a3, a4, a5, a6⟩, b⟩
      refine ⟨(x.2, x.1), List.mem_filter.mpr ⟨(mem_stL hn).mpr ⟨a3, a4, a1, a2, a5.symm, ?_⟩, by simpa using b⟩, rfl⟩
      rw [← isJ_symm f n x.1 x.2 hn a1 a2 a3 a4 a5]; exact a6
    · rintro ⟨p, hp, rfl⟩
      obtain ⟨z1, z2⟩ := List.mem_filter.mp hp
      obtain ⟨a1, a2, a3, a4, a5, a6⟩ := (mem_stL hn).mp z1
      refine ⟨⟨a3, a4, a1, a2, a5.symm, ?_⟩, by simpa using z2⟩
      rw [← isJ_symm f n p.1 p.2 hn a1 a2 a3 a4 a5]; exact a6
  rw [pairs_eq hn] at e1 e2
  omega
theorem jn_len {f : List Pr} {n : Int} (h : Rgt n f) : ((jnL f n).length : Int) = 2 * n - 3 := by
  have hn : (f.length : Int) + 3 = n := by have := h.len; omega
  have h3 := h.three
  have e : (jnL f n).length = (((rng 0 (n - 1)).map fun a => ((a, a + 1) : Pr)) ++ ((0, n - 1) :: f)).length := by
    rw [← pairs_eq hn]
    refine nd_perm' ((nd_stL f).filter _) ?_ fun x => ?_
    · refine List.nodup_append.mpr ⟨Pg.map_nd (rng_nodup _ _) fun a _ b _ e => by injection e, List.nodup_cons.mpr ⟨fun z => (h.vd _ z).2.2.2 ⟨rfl, rfl⟩, ascP_nd h.asc⟩, fun p hp q hq e => ?_⟩
      subst e
      obtain ⟨a, ha, rfl⟩ := List.mem_map.mp hp
      have := mem_rng.mp ha
      rcases List.mem_cons.mp hq with z | z
      · injection z with z1 z2; omega
      · have := h.vd _ z; simp only at this; omega
    · rw [List.mem_filter, mem_stL hn, List.mem_append, List.mem_cons, List.mem_map]
      constructor
      · rintro ⟨⟨a1, a2, a3, a4, a5, a6⟩, b⟩
        have b : x.1 < x.2 := by simpa using b
        rcases (isJ_iff hn a1 a2 a3 a4 a5).mp a6 with z | z | z
        · exact .inl ⟨x.1, mem_rng.mpr ⟨a1, by omega⟩, Prod.ext rfl (by show x.1 + 1 = x.2; omega)⟩
        · exact .inr (.inl (Prod.ext (by show x.1 = 0; omega) (by show x.2 = n - 1; omega)))
        · refine .inr (.inr ?_)
          have : (min x.1 x.2, max x.1 x.2) = x := nrm_self b
          rw [this] at z; exact z
      · intro hx
        have key : 0 ≤ x.1 ∧ x.1 < x.2 ∧ x.2 < n ∧ (x.2 - x.1 = 1 ∨ x.2 - x.1 = n - 1 ∨ x ∈ f) := by
          rcases hx with ⟨a, ha, rfl⟩ | rfl | z
          · have := mem_rng.mp ha
            exact ⟨this.1, by show a < a + 1; omega, by show a + 1 < n; omega, .inl (by show a + 1 - a = 1; omega)⟩
          · exact ⟨Int.le_refl _, by show (0 : Int) < n - 1; omega, by show n - 1 < n; omega, .inr (.inl (by show n - 1 - 0 = n - 1; omega))⟩
          · have := h.vd x z
            exact ⟨this.1, by omega, this.2.2.1, .inr (.inr z)⟩
        obtain ⟨k1, k2, k3, k4⟩ := key
        refine ⟨⟨k1, by omega, by omega, k3, by omega, ?_⟩, by simpa using k2⟩
        rw [isJ_iff hn k1 (by omega) (by omega) k3 (by omega)]
        rcases k4 with z | z | z
        · left; omega
        · right; left; omega
        · right; right
          have : (min x.1 x.2, max x.1 x.2) = x := nrm_self k2
          rw [this]; exact z
  rw [e, List.length_append, List.length_map, rng_len, List.length_cons]
  have := h.len
  omega
end K53

namespace K53
open Fx Fx.Fo PySem
set_option maxRecDepth 100000
set_option linter.all false
def badL (ps : List Pr) : List Pr := ps.filter fun p => !(ps.filter fun q => crL p q).isEmpty
theorem bad_iff {n : Int} {ps : List Pr} (hp : PsOk n ps) : (badL ps).isEmpty = !crAny ps := by
  have h : ∀ p ∈ ps, ∀ q ∈ ps, crL p q = crM p q := fun p h1 q h2 => crL_eq (hp p h1).2.2.2.2 (hp q h2).2.2.2.2
  cases hc : crAny ps with
  | true =>
    unfold crAny pq at hc
    obtain ⟨z, z1, z2⟩ := List.any_eq_true.mp hc
    obtain ⟨p, p1, p2⟩ := List.mem_flatMap.mp z1
    obtain ⟨q, q1, rfl⟩ := List.mem_map.mp p2
    have : p ∈ badL ps := List.mem_filter.mpr ⟨p1, by
      have : q ∈ ps.filter fun q => crL p q := List.mem_filter.mpr ⟨q1, by rw [h p p1 q q1]; exact z2⟩
      rw [Bool.not_eq_true', List.isEmpty_eq_false_iff]
      exact List.ne_nil_of_mem this⟩
    rw [Bool.not_true, List.isEmpty_eq_false_iff]
    exact List.ne_nil_of_mem this
  | false =>
    rw [Bool.not_false, List.isEmpty_iff, List.eq_nil_iff_forall_not_mem]
    intro p hp'
    obtain ⟨p1, p2⟩ := List.mem_filter.mp hp'
    rw [Bool.not_eq_true', List.isEmpty_eq_false_iff] at p2
    obtain ⟨q, hq⟩ := List.exists_mem_of_ne_nil _ p2
    obtain ⟨q1, q2⟩ := List.mem_filter.mp hq
    unfold crAny pq at hc
    rw [List.any_eq_false] at hc
    refine hc (p, q) (List.mem_flatMap.mpr ⟨p, p1, List.mem_map.mpr ⟨q, q1, rfl⟩⟩) ?_
    rw [← h p p1 q q1]; exact q2
theorem all_flt (p : Pr → Bool) (ps : List Pr) : (ps.filter fun x => !p x).isEmpty = ps.all p := by
  rw [Bool.eq_iff_iff, List.isEmpty_iff, List.filter_eq_nil_iff, List.all_eq_true]
  simp
section
variable (sc sk s5 s9 s10 : Sl) (bs : List D) (R : List Pr) (n : Int)
theorem st1 (hR : Rgt n R) (m : Int) (hb : Bs bs m) (hm : m ≤ 700000) (s7 s8 : Sl) (o6 : Option T) : ∃ bs' ps, ex (cf gs l_34) (Ss.get b_law_0_L1 0) [sc, sk, .is (ol bs), .is (.fz (.tup (R.map encP))), .is (.fz (.int n)), s5, jk o6, s7, s8, s9, s10, .un, .un] =
    .ok .nx [sc, sk, .is (ol bs'), .is (.fz (.tup (R.map encP))), .is (.fz (.int n)), s5, .is (ol (ps.map encP)), s7, s8, s9, s10, .un, .un] ∧ Bs bs' (m + 100) ∧ PsOk n ps ∧ ps.length ≤ 7 := by
  have h3 := hR.three
  have hn := hR.le
  have hl := hR.len
  obtain ⟨bs', ps, e1, b1, q1, q2⟩ := law_pairs R n (by omega) h3 hn (fun p hp => by have := hR.vd p hp; unfold PrOk; omega) bs m hb hm
  refine ⟨bs', ps, ?_, b1, q1, q2⟩
  simp [b_law_0_L1, e1]
theorem st2 (ps : List Pr) (hl : ps.length ≤ 7) (o7 : Option T) (s2 s8 : Sl) : ex (cf gs l_34) (Ss.get b_law_0_L1 1) [sc, sk, s2, .is (.fz (.tup (R.map encP))), .is (.fz (.int n)), s5, .is (ol (ps.map encP)), jk o7, s8, s9, s10, .un, .un] =
    .ok .nx [sc, sk, s2, .is (.fz (.tup (R.map encP))), .is (.fz (.int n)), s5, .is (ol (ps.map encP)), .is (ol ((badL ps).map encP)), s8, s9, s10, .un, .un] := by
  simp [b_law_0_L1]
  rw [compL_filter (p := fun p => !(ps.filter fun q => crL p q).isEmpty) (u := fun p => .fz (encP p)) (fun p hp => by
    simp
    rw [compL_filter (p := fun q => crL p q) (u := fun q => .fz (encP q)) (fun q hq => by
      simp [law_crosses]
      split <;> simp_all) (sz_le (by omega))]
    simp
    split <;> simp_all) (sz_le (by omega))]
  simp [badL]
theorem st3 (h3 : 3 ≤ n) (hn : n ≤ 24) (ps : List Pr) (hp : PsOk n ps) (hl : ps.length ≤ 7) (o8 : Option T) (s2 s3 s7 : Sl) (Q : List Pr) (hQ : crAny ps = false → sortsetD (((allG n ps).filter (dgl n)).map encP) = some (Q.map encP)) :
    ex (cf gs l_34) (Ss.get b_law_0_L1 2) [sc, sk, s2, s3, .is (.fz (.int n)), s5, .is (ol (ps.map encP)), s7, jk o8, s9, s10, .un, .un] =
    .ok .nx [sc, sk, s2, s3, .is (.fz (.int n)), s5, if crAny ps then .is (ol (ps.map encP)) else .is (.fz (.lst (ps.map encP))), s7, .is (.fz (if crAny ps then .non else .tup (Q.map encP))), s9, s10, .un, .un] := by
  have hj := flexagon_joining n ps h3 hn (by omega) hp Q hQ
  cases hc : crAny ps with
  | true =>
    rw [hc] at hj
    simp at hj
    simp [b_law_0_L1, hj]
  | false =>
    rw [hc] at hj
    simp at hj
    simp [b_law_0_L1, hj]
theorem st4 (hR : Rgt n R) (ps : List Pr) (hp : PsOk n ps) (hl : ps.length ≤ 7) (s2 s7 s8 : Sl) (fr : Bool) :
    ex (cf gs l_34) (Ss.get b_law_0_L1 3) [sc, sk, s2, .is (.fz (.tup (R.map encP))), .is (.fz (.int n)), s5, if fr then .is (ol (ps.map encP)) else .is (.fz (.lst (ps.map encP))), s7, s8, s9, s10, .un, .un] =
    .ok .nx [sc, sk, s2, .is (.fz (.tup (R.map encP))), .is (.fz (.int n)), s5, if fr then .is (ol (ps.map encP)) else .is (.fz (.lst (ps.map encP))), s7, s8, s9, s10, .un, .un] := by
  have h3 := hR.three
  have hn := hR.le
  have hlR := hR.len
  have hj := is_joining n ps R h3 hn (by omega) hp (flexOk_of hR) (by omega)
  have hs := same3_b (ps.all fun p => isJ R p.1 p.2) (ps.all fun p => isJ R p.1 p.2)
  have hf := all_flt (fun p => isJ R p.1 p.2) ps
  cases fr with
  | true =>
    simp [b_law_0_L1, hj]
    rw [compL_filter (p := fun p => !isJ R p.1 p.2) (u := fun p => .fz (encP p)) (fun p hp => by
      simp [joined]
      split <;> simp_all) (sz_le (by omega))]
    simp
    rw [hf, hs]
    simp
  | false =>
    simp [b_law_0_L1, hj]
    rw [compL_filter (p := fun p => !isJ R p.1 p.2) (u := fun p => .fz (encP p)) (fun p hp => by
      simp [joined]
      split <;> simp_all) (sz_le (by omega))]
    simp
    rw [hf, hs]
    simp
theorem st5a (s2 s3 s4 s6 : Sl) (ps : List Pr) (hb : (badL ps).isEmpty = false) : ex (cf gs l_34) (Ss.get b_law_0_L1 4) [sc, sk, s2, s3, s4, s5, s6, .is (ol ((badL ps).map encP)), .is (.fz .non), s9, s10, .un, .un] =
    .ok .ct [sc, sk, s2, s3, s4, s5, s6, .is (ol ((badL ps).map encP)), .is (.fz .non), s9, s10, .un, .un] := by
  have := neNilP (badL ps)
  rw [hb] at this
  simp [b_law_0_L1, this]
theorem st5b (s2 s3 s4 s6 s8 : Sl) (ps : List Pr) (hb : (badL ps).isEmpty = true) : ex (cf gs l_34) (Ss.get b_law_0_L1 4) [sc, sk, s2, s3, s4, s5, s6, .is (ol ((badL ps).map encP)), s8, s9, s10, .un, .un] =
    .ok .nx [sc, sk, s2, s3, s4, s5, s6, .is (ol ((badL ps).map encP)), s8, s9, s10, .un, .un] := by
  have := neNilP (badL ps)
  rw [hb] at this
  simp [b_law_0_L1, this]
theorem st6 (s2 s3 s7 : Sl) (ps : List Pr) (hl : ps.length ≤ 7) (Q : List Pr) (hQ : Rgt n Q) (hj : (ps.all fun p => isJ Q p.1 p.2) = true) : ex (cf gs l_34) (Ss.get b_law_0_L1 5) [sc, sk, s2, s3, .is (.fz (.int n)), s5, .is (.fz (.lst (ps.map encP))), s7, .is (.fz (.tup (Q.map encP))), s9, s10, .un, .un] =
    .ok .nx [sc, sk, s2, s3, .is (.fz (.int n)), s5, .is (.fz (.lst (ps.map encP))), s7, .is (.fz (.tup (Q.map encP))), s9, s10, .un, .un] := by
  have hf := all_flt (fun p => isJ Q p.1 p.2) ps
  rw [hj] at hf
  simp [b_law_0_L1, law_right n Q hQ]
  rw [compL_filter (p := fun p => !isJ Q p.1 p.2) (u := fun p => .fz (encP p)) (fun p hp => by
    simp [joined]
    split <;> simp_all) (sz_le (by omega))]
  simp
  exact fun a b h => List.all_eq_true.mp hj (a, b) h
theorem st7 (s2 s3 s7 : Sl) (ps : List Pr) (hp : PsOk n ps) (hl : ps.length ≤ 7) (Q : List Pr) (hQ : Rgt n Q) (hj : (ps.all fun p => isJ Q p.1 p.2) = true) : ex (cf gs l_34) (Ss.get b_law_0_L1 6) [sc, sk, s2, s3, .is (.fz (.int n)), s5, .is (.fz (.lst (ps.map encP))), s7, .is (.fz (.tup (Q.map encP))), s9, s10, .un, .un] =
    .ok .nx [sc, sk, s2, s3, .is (.fz (.int n)), s5, .is (.fz (.lst (ps.map encP))), s7, .is (.fz (.tup (Q.map encP))), s9, s10, .un, .un] := by
  have hlQ := hQ.len
  have hi := is_joining n ps Q hQ.three hQ.le (by omega) hp (flexOk_of hQ) (by omega)
  rw [hj] at hi
  simp [b_law_0_L1, hi, same3_bb]
theorem st8 (s2 s3 s4 s6 s7 s8 : Sl) (o9 : Option T) : ex (cf gs l_34) (Ss.get b_law_0_L1 7) [sc, sk, s2, s3, s4, s5, s6, s7, s8, jk o9, s10, .un, .un] =
    .ok .nx [sc, sk, s2, s3, s4, s5, s6, s7, s8, .is (ol []), s10, .un, .un] := by
  simp [b_law_0_L1]
theorem jnF_len (f : List Pr) (hn : n ≤ 24) (a : Int) (ha : 0 ≤ a) : (jnF f n a).length ≤ 24 := by
  unfold jnF
  rw [List.length_map]
  exact Nat.le_trans (List.length_filter_le _ _) (by rw [rng_len]; omega)
theorem st9 (s2 s3 s6 s7 : Sl) (Q : List Pr) (hQ : Rgt n Q) (o10 : Option T) : ∃ o10', ex (cf gs l_34) (Ss.get b_law_0_L1 8) [sc, sk, s2, s3, .is (.fz (.int n)), s5, s6, s7, .is (.fz (.tup (Q.map encP))), .is (ol []), jk o10, .un, .un] =
    .ok .nx [sc, sk, s2, s3, .is (.fz (.int n)), s5, s6, s7, .is (.fz (.tup (Q.map encP))), .is (ol ((jnL Q n).map encP)), jk o10', .un, .un] := by
  have h3 := hQ.three
  have hn := hQ.le
  have hs : small62 n = true := small_62 (by omega) (by omega)
  have hrl : (rng 0 n).length ≤ 24 := by rw [rng_len]; omega
  obtain ⟨e', q1, o10', q2⟩ := forL_inv (enc := D.int) (xs := rng 0 n) (f := fbody (fun e3 => exs (cf gs l_34) b_law_0_L0 e3) (Tg.n 10))
    (e := [sc, sk, s2, s3, .is (.fz (.int n)), s5, s6, s7, .is (.fz (.tup (Q.map encP))), .is (ol []), jk o10, .un, .un])
    (fun pre e => ∃ o10, e = [sc, sk, s2, s3, .is (.fz (.int n)), s5, s6, s7, .is (.fz (.tup (Q.map encP))), .is (ol ((pre.flatMap (jnF Q n)).map encP)), jk o10, .un, .un]) ⟨o10, rfl⟩ fun pre x post e hx ⟨o10, he⟩ => by
      subst he
      have hm : ∀ y ∈ pre ++ x :: post, 0 ≤ y ∧ y < n := fun y hy => mem_rng.mp (hx ▸ hy)
      have hpl : pre.length ≤ 24 := by
        rw [hx, List.length_append] at hrl
        omega
      have hfl : (pre.flatMap (jnF Q n)).length ≤ pre.length * 24 := flat_len fun y hy => jnF_len n Q hn y (hm y (List.mem_append_left _ hy)).1
      have hxm := hm x (by simp)
      have hsx := jnF_len n Q hn x hxm.1
      have hs2 : small62 (x + 1) = true := small_62 (by omega) (by omega)
      refine ⟨_, ?_, some (.fz (.int x)), rfl⟩
      have hst : (jnF Q n x).map encP = ((rng (x + 1) n).filter fun b => isJ Q x b).map fun b => D.tup [.int x, .int b] := by rw [jnF, List.map_map]; rfl
      simp [b_law_0_L0, hs, hs2]
      rw [compL_filter (p := fun b => isJ Q x b) (u := fun b => .fz (.tup [.int x, .int b])) (fun b _ => by simp [joined]; split <;> simp_all) (by rw [rng_len]; exact sz_le (by omega))]
      simp
      rw [← hst, addL (by rw [List.length_map, List.length_map]; exact sz_le (by omega))]
      simp
  refine ⟨o10', ?_⟩
  simp [b_law_0_L1, hs, q1, q2, jnL]
theorem st10 (s2 s3 s6 s7 : Sl) (Q : List Pr) (hQ : Rgt n Q) : ex (cf gs l_34) (Ss.get b_law_0_L1 9) [sc, sk, s2, s3, .is (.fz (.int n)), s5, s6, s7, .is (.fz (.tup (Q.map encP))), .is (ol ((jnL Q n).map encP)), s10, .un, .un] =
    .ok .nx [sc, sk, s2, s3, .is (.fz (.int n)), s5, s6, s7, .is (.fz (.tup (Q.map encP))), .is (.fz (.lst ((jnL Q n).map encP))), s10, .un, .un] := by
  have hlQ := hQ.len
  have h3 := hQ.three
  have hn := hQ.le
  have hn' : (Q.length : Int) + 3 = n := by omega
  have hjl := jn_len hQ
  have hp := pairs_of Q (by omega) (flexOk_of hQ)
  rw [pairs_eq hn'] at hp
  have hst := states_of Q (by omega) (flexOk_of hQ)
  have hsl := states_len hn'
  have hsm := same3_pi (jnL Q n) (2 * ((jnL Q n).length : Int)) (by omega)
  rw [hjl] at hsm
  simp [b_law_0_L1, hp, hst, hsl, mulI (mulOk_l (i := 2) (by decide) (by decide)), hjl, hsm]
end
theorem l1_len : Ss.len b_law_0_L1 = 10 := rfl
theorem body1 (sc sk s5 : Sl) (bs : List D) (R : List Pr) (n m : Int) (hR : Rgt n R) (hb : Bs bs m) (hm : m ≤ 700000) (o6 o7 o8 o9 o10 : Option T) : ∃ bs' o6' o7' o8' o9' o10',
    (exs (cf gs l_34) b_law_0_L1 [sc, sk, .is (ol bs), .is (.fz (.tup (R.map encP))), .is (.fz (.int n)), s5, jk o6, jk o7, jk o8, jk o9, jk o10, .un, .un] =
      .ok .nx [sc, sk, .is (ol bs'), .is (.fz (.tup (R.map encP))), .is (.fz (.int n)), s5, jk o6', jk o7', jk o8', jk o9', jk o10', .un, .un] ∨
    exs (cf gs l_34) b_law_0_L1 [sc, sk, .is (ol bs), .is (.fz (.tup (R.map encP))), .is (.fz (.int n)), s5, jk o6, jk o7, jk o8, jk o9, jk o10, .un, .un] =
      .ok .ct [sc, sk, .is (ol bs'), .is (.fz (.tup (R.map encP))), .is (.fz (.int n)), s5, jk o6', jk o7', jk o8', jk o9', jk o10', .un, .un]) ∧ Bs bs' (m + 100) := by
  have h3 := hR.three
  have hn := hR.le
  obtain ⟨bs', ps, e1, b1, hp, hl⟩ := st1 sc sk s5 (jk o9) (jk o10) bs R n hR m hb hm (jk o7) (jk o8) o6
  have e2 := st2 sc sk s5 (jk o9) (jk o10) R n ps hl o7 (.is (ol bs')) (jk o8)
  obtain ⟨Q, hQ⟩ : ∃ Q : List Pr, crAny ps = false → sortsetD (((allG n ps).filter (dgl n)).map encP) = some (Q.map encP) ∧ Rgt n Q ∧ (ps.all fun p => isJ Q p.1 p.2) = true := by
    cases hc : crAny ps with
    | true => exact ⟨[], fun z => by cases z⟩
    | false =>
      obtain ⟨Q, q⟩ := joining h3 hn hp hl hc
      exact ⟨Q, fun _ => q⟩
  have e3 := st3 sc sk s5 (jk o9) (jk o10) n h3 hn ps hp hl o8 (.is (ol bs')) (.is (.fz (.tup (R.map encP)))) (.is (ol ((badL ps).map encP))) Q fun z => (hQ z).1
  have hbad := bad_iff hp
  cases hc : crAny ps with
  | true =>
    rw [hc] at e3 hbad
    have e4 := st4 sc sk s5 (jk o9) (jk o10) R n hR ps hp hl (.is (ol bs')) (.is (ol ((badL ps).map encP))) (.is (.fz .non)) true
    have e5 := st5a sc sk s5 (jk o9) (jk o10) (.is (ol bs')) (.is (.fz (.tup (R.map encP)))) (.is (.fz (.int n))) (.is (ol (ps.map encP))) ps hbad
    simp only [if_true] at e3 e4
    refine ⟨bs', some (ol (ps.map encP)), some (ol ((badL ps).map encP)), some (.fz .non), o9, o10, .inr ?_, b1⟩
    rw [← drop_0 b_law_0_L1, exs_drop _ _ _ _ (by rw [l1_len]; decide), e1, seqO_nx, exs_drop _ _ _ _ (by rw [l1_len]; decide), e2, seqO_nx, exs_drop _ _ _ _ (by rw [l1_len]; decide), e3, seqO_nx, exs_drop _ _ _ _ (by rw [l1_len]; decide), e4, seqO_nx,
      exs_drop _ _ _ _ (by rw [l1_len]; decide), e5, seqO_ct]
    rfl
  | false =>
    rw [hc] at e3 hbad
    obtain ⟨_, hQ2, hQ3⟩ := hQ hc
    have e4 := st4 sc sk s5 (jk o9) (jk o10) R n hR ps hp hl (.is (ol bs')) (.is (ol ((badL ps).map encP))) (.is (.fz (.tup (Q.map encP)))) false
    simp only [if_false, Bool.false_eq_true] at e3 e4
    have e5 := st5b sc sk s5 (jk o9) (jk o10) (.is (ol bs')) (.is (.fz (.tup (R.map encP)))) (.is (.fz (.int n))) (.is (.fz (.lst (ps.map encP)))) (.is (.fz (.tup (Q.map encP)))) ps hbad
    have e6 := st6 sc sk s5 (jk o9) (jk o10) n (.is (ol bs')) (.is (.fz (.tup (R.map encP)))) (.is (ol ((badL ps).map encP))) ps hl Q hQ2 hQ3
    have e7 := st7 sc sk s5 (jk o9) (jk o10) n (.is (ol bs')) (.is (.fz (.tup (R.map encP)))) (.is (ol ((badL ps).map encP))) ps hp hl Q hQ2 hQ3
    have e8 := st8 sc sk s5 (jk o10) (.is (ol bs')) (.is (.fz (.tup (R.map encP)))) (.is (.fz (.int n))) (.is (.fz (.lst (ps.map encP)))) (.is (ol ((badL ps).map encP))) (.is (.fz (.tup (Q.map encP)))) o9
    obtain ⟨o10', e9⟩ := st9 sc sk s5 n (.is (ol bs')) (.is (.fz (.tup (R.map encP)))) (.is (.fz (.lst (ps.map encP)))) (.is (ol ((badL ps).map encP))) Q hQ2 o10
    have e10 := st10 sc sk s5 (jk o10') n (.is (ol bs')) (.is (.fz (.tup (R.map encP)))) (.is (.fz (.lst (ps.map encP)))) (.is (ol ((badL ps).map encP))) Q hQ2
    refine ⟨bs', some (.fz (.lst (ps.map encP))), some (ol ((badL ps).map encP)), some (.fz (.tup (Q.map encP))), some (.fz (.lst ((jnL Q n).map encP))), o10', .inl ?_, b1⟩
    rw [← drop_0 b_law_0_L1, exs_drop _ _ _ _ (by rw [l1_len]; decide), e1, seqO_nx, exs_drop _ _ _ _ (by rw [l1_len]; decide), e2, seqO_nx, exs_drop _ _ _ _ (by rw [l1_len]; decide), e3, seqO_nx, exs_drop _ _ _ _ (by rw [l1_len]; decide), e4, seqO_nx,
      exs_drop _ _ _ _ (by rw [l1_len]; decide), e5, seqO_nx, exs_drop _ _ _ _ (by rw [l1_len]; decide), e6, seqO_nx, exs_drop _ _ _ _ (by rw [l1_len]; decide), e7, seqO_nx, exs_drop _ _ _ _ (by rw [l1_len]; decide), e8, seqO_nx,
      exs_drop _ _ _ _ (by rw [l1_len]; decide), e9, seqO_nx, exs_drop _ _ _ _ (by rw [l1_len]; decide), e10, seqO_nx, exs_over _ _ _ _ (by rw [l1_len]; decide)]
    rfl
theorem body2 (ns : List Int) (k : Int) (h0 : 0 ≤ k) (h1 : k ≤ 10) (o2 o3 o4 o5 o6 o7 o8 o9 o10 : Option T) : ∃ o2' o3' o4' o5' o6' o7' o8' o9' o10', exs (cf gs l_34) b_law_0_L2 [.is (.fz (.rol (ns.map .int))), .is (.fz (.int k)), jk o2, jk o3, jk o4, jk o5, jk o6, jk o7, jk o8, jk o9, jk o10, .un, .un] =
    .ok .nx [.is (.fz (.rol (ns.map .int))), .is (.fz (.int k)), jk o2', jk o3', jk o4', jk o5', jk o6', jk o7', jk o8', jk o9', jk o10', .un, .un] := by
  obtain ⟨v, e1⟩ := law_cell ns k h0 h1
  obtain ⟨a, b, c, e2, z1, z2, z3⟩ := law_box v
  have hb : Bs [.int a, .bl b, .int c, .int 0] 0 := ⟨a, b, c, 0, rfl, z1, z2, z3, Int.le_refl _, Int.le_refl _⟩
  obtain ⟨d, bs1, e3, d1, d2, b1⟩ := take hb (by decide) 22 (by decide) (by decide)
  obtain ⟨R, bs2, e4, hR, b2⟩ := law_flexagon (3 + d) (by omega) (by omega) bs1 _ b1 (by decide)
  have hlen : (R.length : Int) + 3 = 3 + d := by have := hR.len; omega
  obtain ⟨e', q1, bs3, o5', o6', o7', o8', o9', o10', q2, q3⟩ := forL_inv2 (enc := D.int) (xs := rng 0 3) (f := fbody (fun e3 => exs (cf gs l_34) b_law_0_L1 e3) (Tg.n 5))
    (e := [.is (.fz (.rol (ns.map .int))), .is (.fz (.int k)), .is (ol bs2), .is (.fz (.tup (R.map encP))), .is (.fz (.int (3 + d))), jk o5, jk o6, jk o7, jk o8, jk o9, jk o10, .un, .un])
    (fun pre e => ∃ bs3 o5 o6 o7 o8 o9 o10, e = [.is (.fz (.rol (ns.map .int))), .is (.fz (.int k)), .is (ol bs3), .is (.fz (.tup (R.map encP))), .is (.fz (.int (3 + d))), jk o5, jk o6, jk o7, jk o8, jk o9, jk o10, .un, .un] ∧ Bs bs3 (200 + 100 * pre.length)) ⟨bs2, o5, o6, o7, o8, o9, o10, rfl, b2.mono (by simp)⟩ fun pre x post e hx ⟨bs3, o5, o6, o7, o8, o9, o10, he, hbs⟩ => by
      subst he
      have hpl : pre.length ≤ 3 := by
        have := rng_len 0 3
        rw [hx, List.length_append] at this
        simp at this; omega
      obtain ⟨bs4, p6, p7, p8, p9, p10, w, wb⟩ := body1 (.is (.fz (.rol (ns.map .int)))) (.is (.fz (.int k))) (.is (.fz (.int x))) bs3 R (3 + d) _ hR hbs (by omega) o6 o7 o8 o9 o10
      refine ⟨[.is (.fz (.rol (ns.map .int))), .is (.fz (.int k)), .is (ol bs4), .is (.fz (.tup (R.map encP))), .is (.fz (.int (3 + d))), .is (.fz (.int x)), jk p6, jk p7, jk p8, jk p9, jk p10, .un, .un], ?_, bs4, some (.fz (.int x)), p6, p7, p8, p9, p10, rfl, wb.mono (by simp; omega)⟩
      rcases w with w | w
      · left; simp [w]
      · right; simp [w]
  refine ⟨some (ol bs3), some (.fz (.tup (R.map encP))), some (.fz (.int (3 + d))), o5', o6', o7', o8', o9', o10', ?_⟩
  have hs : small62 3 = true := by decide
  simp [b_law_0_L2, e1, e2, e3, e4, hlen, hs, q1, q2]
theorem answer (ns : List Int) (_ : ns.length ≤ 63) : ∃ m, f_law_0.f [.fz (.rol (ns.map .int))] = some (.ret (.fz (.bl true)) m) := by
  have hs : small62 (max 2 (min 3 (ns.length : Int))) = true := small_62 (by omega) (by omega)
  obtain ⟨e', q1, o1, o2, o3, o4, o5, o6, o7, o8, o9, o10, q2⟩ := forL_inv (enc := D.int) (xs := rng 0 (max 2 (min 3 (ns.length : Int)))) (f := fbody (fun e3 => exs (cf gs l_34) b_law_0_L2 e3) (Tg.n 1))
    (e := [.is (.fz (.rol (ns.map .int))), .un, .un, .un, .un, .un, .un, .un, .un, .un, .un, .un, .un])
    (fun pre e => ∃ o1 o2 o3 o4 o5 o6 o7 o8 o9 o10, e = [.is (.fz (.rol (ns.map .int))), jk o1, jk o2, jk o3, jk o4, jk o5, jk o6, jk o7, jk o8, jk o9, jk o10, .un, .un]) ⟨none, none, none, none, none, none, none, none, none, none, rfl⟩ fun pre x post e hx ⟨o1, o2, o3, o4, o5, o6, o7, o8, o9, o10, he⟩ => by
      subst he
      have hm := mem_rng.mp (hx ▸ (by simp : x ∈ pre ++ x :: post))
      obtain ⟨p2, p3, p4, p5, p6, p7, p8, p9, p10, w⟩ := body2 ns x hm.1 (by omega) o2 o3 o4 o5 o6 o7 o8 o9 o10
      refine ⟨_, ?_, some (.fz (.int x)), p2, p3, p4, p5, p6, p7, p8, p9, p10, rfl⟩
      simp [w]
  refine ⟨[], ?_⟩
  simp [f_law_0, mkFn_f, startE, b_law_0, hs, q1, q2]
end K53

set_option Elab.async false
set_option linter.all false
set_option maxRecDepth 100000
namespace K53
open Fx PySem L2
def top (i : Nat) : Stmt := PySem.Challenge.pw_flexhouse_k53_whole_wished_pairs.main.body.getD i (.Pass ⟨0, 0, 0, 0⟩)
def N_is_integer_0 : List Str := ["value"]
abbrev s_is_integer_0 : Stmt := top 6
def N_is_within_0 : List Str := ["value", "low", "high"]
abbrev s_is_within_0 : Stmt := top 7
def N_is_index_0 : List Str := ["value", "many"]
abbrev s_is_index_0 : Stmt := top 8
def N_is_list_0 : List Str := ["value"]
abbrev s_is_list_0 : Stmt := top 9
def N_is_tuple_0 : List Str := ["value", "many"]
abbrev s_is_tuple_0 : Stmt := top 10
def N_ascends_0 : List Str := ["items", "one", "other"]
abbrev s_ascends_0 : Stmt := top 11
def N_check_faces_0 : List Str := ["faces"]
abbrev s_check_faces_0 : Stmt := top 15
def N_is_pair_0 : List Str := ["value", "count"]
abbrev s_is_pair_0 : Stmt := top 17
def N_are_neighbors_0 : List Str := ["one", "other", "count"]
abbrev s_are_neighbors_0 : Stmt := top 18
def N_is_diagonal_0 : List Str := ["value", "count"]
abbrev s_is_diagonal_0 : Stmt := top 19
def N_cross_polygons_0 : List Str := ["one", "other"]
abbrev s_cross_polygons_0 : Stmt := top 20
def N_is_flexagon_0 : List Str := ["value", "count", "at", "one", "other", "item"]
abbrev s_is_flexagon_0 : Stmt := top 22
def N_check_flexagon_0 : List Str := ["flexagon"]
abbrev s_check_flexagon_0 : Stmt := top 23
def N_is_joined_0 : List Str := ["flexagon", "one", "other", "many"]
abbrev s_is_joined_0 : Stmt := top 25
def N_list_of_0 : List Str := ["flexagon", "many", "found", "front", "others", "behind"]
abbrev s_list_of_0 : Stmt := top 26
def N_states_of_0 : List Str := ["flexagon"]
abbrev s_states_of_0 : Stmt := top 27
def N_pairs_of_0 : List Str := ["flexagon", "state"]
abbrev s_pairs_of_0 : Stmt := top 29
def N_check_pairs_0 : List Str := ["faces", "pairs", "one", "other", "pair"]
abbrev s_check_pairs_0 : Stmt := top 30
def N_cross_meets_0 : List Str := ["one", "other", "low", "high", "face"]
abbrev s_cross_meets_0 : Stmt := top 31
def N_diagonals_for_0 : List Str := ["faces", "pairs", "found", "low", "high", "pair"]
abbrev s_diagonals_for_0 : Stmt := top 33
def N_flexagon_joining_0 : List Str := ["faces", "pairs", "one", "other"]
abbrev s_flexagon_joining_0 : Stmt := top 34
def N_is_joining_0 : List Str := ["faces", "pairs", "value", "one", "other"]
abbrev s_is_joining_0 : Stmt := top 35
def N_law_cell_0 : List Str := ["script", "k"]
abbrev s_law_cell_0 : Stmt := top 37
def N_law_box_0 : List Str := ["great"]
abbrev s_law_box_0 : Stmt := top 38
def N_law_take_0 : List Str := ["box", "many", "mixed", "digit"]
abbrev s_law_take_0 : Stmt := top 39
def N_law_same_0 : List Str := ["given", "due", "k"]
abbrev s_law_same_0 : Stmt := top 41
def N_law_same_1 : List Str := ["given", "due", "k"]
abbrev s_law_same_1 : Stmt := top 41
def N_law_same_2 : List Str := ["given", "due", "k"]
abbrev s_law_same_2 : Stmt := top 41
def N_law_same_3 : List Str := ["given", "due", "k"]
abbrev s_law_same_3 : Stmt := top 41
def N_law_flexagon_0 : List Str := ["box", "many", "way", "found", "left", "turn", "pairs", "first", "last", "third", "one", "other"]
abbrev s_law_flexagon_0 : Stmt := top 43
def N_law_joined_0 : List Str := ["flexagon", "one", "other", "many"]
abbrev s_law_joined_0 : Stmt := top 44
def N_law_right_0 : List Str := ["flexagon", "many", "one", "other", "pair"]
abbrev s_law_right_0 : Stmt := top 51
def N_law_crosses_0 : List Str := ["one", "other", "low", "high", "inside", "outside", "face"]
abbrev s_law_crosses_0 : Stmt := top 52
def N_law_pairs_0 : List Str := ["box", "flexagon", "many", "found", "turn", "at", "pair"]
abbrev s_law_pairs_0 : Stmt := top 53
def N_law_0 : List Str := ["script", "k", "box", "flexagon", "many", "turn", "pairs", "bad", "told", "joined", "one", "pair", "other"]
abbrev s_law_0 : Stmt := top 54
def fs : List (Str × List Str) := [(("is_integer" : Str), (["value"] : List Str)), (("is_within" : Str), (["value", "low", "high"] : List Str)), (("is_index" : Str), (["value", "many"] : List Str)), (("is_list" : Str), (["value"] : List Str)), (("is_tuple" : Str), (["value", "many"] : List Str)), (("ascends" : Str), (["items"] : List Str)), (("check_faces" : Str), (["faces"] : List Str)), (("is_pair" : Str), (["value", "count"] : List Str)), (("are_neighbors" : Str), (["one", "other", "count"] : List Str)), (("is_diagonal" : Str), (["value", "count"] : List Str)), (("cross_polygons" : Str), (["one", "other"] : List Str)), (("is_flexagon" : Str), (["value"] : List Str)), (("check_flexagon" : Str), (["flexagon"] : List Str)), (("is_joined" : Str), (["flexagon", "one", "other"] : List Str)), (("list_of" : Str), (["flexagon"] : List Str)), (("states_of" : Str), (["flexagon"] : List Str)), (("pairs_of" : Str), (["flexagon"] : List Str)), (("check_pairs" : Str), (["faces", "pairs"] : List Str)), (("cross_meets" : Str), (["one", "other"] : List Str)), (("diagonals_for" : Str), (["faces", "pairs"] : List Str)), (("flexagon_joining" : Str), (["faces", "pairs"] : List Str)), (("is_joining" : Str), (["faces", "pairs", "value"] : List Str)), (("_law_cell" : Str), (["script", "k"] : List Str)), (("_law_box" : Str), (["great"] : List Str)), (("_law_take" : Str), (["box", "many"] : List Str)), (("_law_same" : Str), (["given", "due"] : List Str)), (("_law_same" : Str), (["given", "due"] : List Str)), (("_law_same" : Str), (["given", "due"] : List Str)), (("_law_same" : Str), (["given", "due"] : List Str)), (("_law_flexagon" : Str), (["box", "many"] : List Str)), (("_law_joined" : Str), (["flexagon", "one", "other"] : List Str)), (("_law_right" : Str), (["flexagon", "many"] : List Str)), (("_law_crosses" : Str), (["one", "other"] : List Str)), (("_law_pairs" : Str), (["box", "flexagon"] : List Str)), (("law" : Str), (["script"] : List Str))]
def gn : List Str := ["LEAST_FACES", "MOST_FACES"]
theorem c_is_integer_0 : chkSs (tbOf N_is_integer_0 0 fs gn) (cf gs l_0) (defScope s_is_integer_0) b_is_integer_0 (defBody s_is_integer_0) = true := by decide +kernel
theorem c_is_within_0 : chkSs (tbOf N_is_within_0 0 fs gn) (cf gs l_1) (defScope s_is_within_0) b_is_within_0 (defBody s_is_within_0) = true := by decide +kernel
theorem c_is_index_0 : chkSs (tbOf N_is_index_0 0 fs gn) (cf gs l_2) (defScope s_is_index_0) b_is_index_0 (defBody s_is_index_0) = true := by decide +kernel
theorem c_is_list_0 : chkSs (tbOf N_is_list_0 0 fs gn) (cf gs l_3) (defScope s_is_list_0) b_is_list_0 (defBody s_is_list_0) = true := by decide +kernel
theorem c_is_tuple_0 : chkSs (tbOf N_is_tuple_0 0 fs gn) (cf gs l_4) (defScope s_is_tuple_0) b_is_tuple_0 (defBody s_is_tuple_0) = true := by decide +kernel
theorem c_ascends_0 : chkSs (tbOf N_ascends_0 0 fs gn) (cf gs l_5) (defScope s_ascends_0) b_ascends_0 (defBody s_ascends_0) = true := by decide +kernel
theorem c_check_faces_0 : chkSs (tbOf N_check_faces_0 0 fs gn) (cf gs l_6) (defScope s_check_faces_0) b_check_faces_0 (defBody s_check_faces_0) = true := by decide +kernel
theorem c_is_pair_0 : chkSs (tbOf N_is_pair_0 0 fs gn) (cf gs l_7) (defScope s_is_pair_0) b_is_pair_0 (defBody s_is_pair_0) = true := by decide +kernel
theorem c_are_neighbors_0 : chkSs (tbOf N_are_neighbors_0 0 fs gn) (cf gs l_8) (defScope s_are_neighbors_0) b_are_neighbors_0 (defBody s_are_neighbors_0) = true := by decide +kernel
theorem c_is_diagonal_0 : chkSs (tbOf N_is_diagonal_0 0 fs gn) (cf gs l_9) (defScope s_is_diagonal_0) b_is_diagonal_0 (defBody s_is_diagonal_0) = true := by decide +kernel
theorem c_cross_polygons_0 : chkSs (tbOf N_cross_polygons_0 0 fs gn) (cf gs l_10) (defScope s_cross_polygons_0) b_cross_polygons_0 (defBody s_cross_polygons_0) = true := by decide +kernel
theorem c_is_flexagon_0 : chkSs (tbOf N_is_flexagon_0 0 fs gn) (cf gs l_11) (defScope s_is_flexagon_0) b_is_flexagon_0 (defBody s_is_flexagon_0) = true := by decide +kernel
theorem c_check_flexagon_0 : chkSs (tbOf N_check_flexagon_0 0 fs gn) (cf gs l_12) (defScope s_check_flexagon_0) b_check_flexagon_0 (defBody s_check_flexagon_0) = true := by decide +kernel
theorem c_is_joined_0 : chkSs (tbOf N_is_joined_0 0 fs gn) (cf gs l_13) (defScope s_is_joined_0) b_is_joined_0 (defBody s_is_joined_0) = true := by decide +kernel
theorem c_list_of_0 : chkSs (tbOf N_list_of_0 0 fs gn) (cf gs l_14) (defScope s_list_of_0) b_list_of_0 (defBody s_list_of_0) = true := by decide +kernel
theorem c_states_of_0 : chkSs (tbOf N_states_of_0 0 fs gn) (cf gs l_15) (defScope s_states_of_0) b_states_of_0 (defBody s_states_of_0) = true := by decide +kernel
theorem c_pairs_of_0 : chkSs (tbOf N_pairs_of_0 0 fs gn) (cf gs l_16) (defScope s_pairs_of_0) b_pairs_of_0 (defBody s_pairs_of_0) = true := by decide +kernel
theorem c_check_pairs_0 : chkSs (tbOf N_check_pairs_0 0 fs gn) (cf gs l_17) (defScope s_check_pairs_0) b_check_pairs_0 (defBody s_check_pairs_0) = true := by decide +kernel
theorem c_cross_meets_0 : chkSs (tbOf N_cross_meets_0 0 fs gn) (cf gs l_18) (defScope s_cross_meets_0) b_cross_meets_0 (defBody s_cross_meets_0) = true := by decide +kernel
theorem c_diagonals_for_0 : chkSs (tbOf N_diagonals_for_0 0 fs gn) (cf gs l_19) (defScope s_diagonals_for_0) b_diagonals_for_0 (defBody s_diagonals_for_0) = true := by decide +kernel
theorem c_flexagon_joining_0 : chkSs (tbOf N_flexagon_joining_0 0 fs gn) (cf gs l_20) (defScope s_flexagon_joining_0) b_flexagon_joining_0 (defBody s_flexagon_joining_0) = true := by decide +kernel
theorem c_is_joining_0 : chkSs (tbOf N_is_joining_0 0 fs gn) (cf gs l_21) (defScope s_is_joining_0) b_is_joining_0 (defBody s_is_joining_0) = true := by decide +kernel
theorem c_law_cell_0 : chkSs (tbOf N_law_cell_0 0 fs gn) (cf gs l_22) (defScope s_law_cell_0) b_law_cell_0 (defBody s_law_cell_0) = true := by decide +kernel
theorem c_law_box_0 : chkSs (tbOf N_law_box_0 0 fs gn) (cf gs l_23) (defScope s_law_box_0) b_law_box_0 (defBody s_law_box_0) = true := by decide +kernel
theorem c_law_take_0 : chkSs (tbOf N_law_take_0 1 fs gn) (cf gs l_24) (defScope s_law_take_0) b_law_take_0 (defBody s_law_take_0) = true := by decide +kernel
theorem c_law_same_0 : chkSs (tbOf N_law_same_0 0 fs gn) (cf gs l_25) (defScope s_law_same_0) b_law_same_0 (defBody s_law_same_0) = true := by decide +kernel
theorem c_law_same_1 : chkSs (tbOf N_law_same_1 0 fs gn) (cf gs l_26) (defScope s_law_same_1) b_law_same_1 (defBody s_law_same_1) = true := by decide +kernel
theorem c_law_same_2 : chkSs (tbOf N_law_same_2 0 fs gn) (cf gs l_27) (defScope s_law_same_2) b_law_same_2 (defBody s_law_same_2) = true := by decide +kernel
theorem c_law_same_3 : chkSs (tbOf N_law_same_3 0 fs gn) (cf gs l_28) (defScope s_law_same_3) b_law_same_3 (defBody s_law_same_3) = true := by decide +kernel
theorem c_law_flexagon_0 : chkSs (tbOf N_law_flexagon_0 1 fs gn) (cf gs l_29) (defScope s_law_flexagon_0) b_law_flexagon_0 (defBody s_law_flexagon_0) = true := by decide +kernel
theorem c_law_joined_0 : chkSs (tbOf N_law_joined_0 0 fs gn) (cf gs l_30) (defScope s_law_joined_0) b_law_joined_0 (defBody s_law_joined_0) = true := by decide +kernel
theorem c_law_right_0 : chkSs (tbOf N_law_right_0 0 fs gn) (cf gs l_31) (defScope s_law_right_0) b_law_right_0 (defBody s_law_right_0) = true := by decide +kernel
theorem c_law_crosses_0 : chkSs (tbOf N_law_crosses_0 0 fs gn) (cf gs l_32) (defScope s_law_crosses_0) b_law_crosses_0 (defBody s_law_crosses_0) = true := by decide +kernel
theorem c_law_pairs_0 : chkSs (tbOf N_law_pairs_0 1 fs gn) (cf gs l_33) (defScope s_law_pairs_0) b_law_pairs_0 (defBody s_law_pairs_0) = true := by decide +kernel
theorem c_law_0 : chkSs (tbOf N_law_0 0 fs gn) (cf gs l_34) (defScope s_law_0) b_law_0 (defBody s_law_0) = true := by decide +kernel
theorem S_is_integer_0 : FnScope N_is_integer_0 ["value"] (defScope s_is_integer_0) := ⟨rfl, rfl, rfl, by decide +kernel, rfl, by decide +kernel, by decide +kernel⟩
theorem S_is_within_0 : FnScope N_is_within_0 ["value", "low", "high"] (defScope s_is_within_0) := ⟨rfl, rfl, rfl, by decide +kernel, rfl, by decide +kernel, by decide +kernel⟩
theorem S_is_index_0 : FnScope N_is_index_0 ["value", "many"] (defScope s_is_index_0) := ⟨rfl, rfl, rfl, by decide +kernel, rfl, by decide +kernel, by decide +kernel⟩
theorem S_is_list_0 : FnScope N_is_list_0 ["value"] (defScope s_is_list_0) := ⟨rfl, rfl, rfl, by decide +kernel, rfl, by decide +kernel, by decide +kernel⟩
theorem S_is_tuple_0 : FnScope N_is_tuple_0 ["value", "many"] (defScope s_is_tuple_0) := ⟨rfl, rfl, rfl, by decide +kernel, rfl, by decide +kernel, by decide +kernel⟩
theorem S_ascends_0 : FnScope N_ascends_0 ["items"] (defScope s_ascends_0) := ⟨rfl, rfl, rfl, by decide +kernel, rfl, by decide +kernel, by decide +kernel⟩
theorem S_check_faces_0 : FnScope N_check_faces_0 ["faces"] (defScope s_check_faces_0) := ⟨rfl, rfl, rfl, by decide +kernel, rfl, by decide +kernel, by decide +kernel⟩
theorem S_is_pair_0 : FnScope N_is_pair_0 ["value", "count"] (defScope s_is_pair_0) := ⟨rfl, rfl, rfl, by decide +kernel, rfl, by decide +kernel, by decide +kernel⟩
theorem S_are_neighbors_0 : FnScope N_are_neighbors_0 ["one", "other", "count"] (defScope s_are_neighbors_0) := ⟨rfl, rfl, rfl, by decide +kernel, rfl, by decide +kernel, by decide +kernel⟩
theorem S_is_diagonal_0 : FnScope N_is_diagonal_0 ["value", "count"] (defScope s_is_diagonal_0) := ⟨rfl, rfl, rfl, by decide +kernel, rfl, by decide +kernel, by decide +kernel⟩
theorem S_cross_polygons_0 : FnScope N_cross_polygons_0 ["one", "other"] (defScope s_cross_polygons_0) := ⟨rfl, rfl, rfl, by decide +kernel, rfl, by decide +kernel, by decide +kernel⟩
theorem S_is_flexagon_0 : FnScope N_is_flexagon_0 ["value"] (defScope s_is_flexagon_0) := ⟨rfl, rfl, rfl, by decide +kernel, rfl, by decide +kernel, by decide +kernel⟩
theorem S_check_flexagon_0 : FnScope N_check_flexagon_0 ["flexagon"] (defScope s_check_flexagon_0) := ⟨rfl, rfl, rfl, by decide +kernel, rfl, by decide +kernel, by decide +kernel⟩
theorem S_is_joined_0 : FnScope N_is_joined_0 ["flexagon", "one", "other"] (defScope s_is_joined_0) := ⟨rfl, rfl, rfl, by decide +kernel, rfl, by decide +kernel, by decide +kernel⟩
theorem S_list_of_0 : FnScope N_list_of_0 ["flexagon"] (defScope s_list_of_0) := ⟨rfl, rfl, rfl, by decide +kernel, rfl, by decide +kernel, by decide +kernel⟩
theorem S_states_of_0 : FnScope N_states_of_0 ["flexagon"] (defScope s_states_of_0) := ⟨rfl, rfl, rfl, by decide +kernel, rfl, by decide +kernel, by decide +kernel⟩
theorem S_pairs_of_0 : FnScope N_pairs_of_0 ["flexagon"] (defScope s_pairs_of_0) := ⟨rfl, rfl, rfl, by decide +kernel, rfl, by decide +kernel, by decide +kernel⟩
theorem S_check_pairs_0 : FnScope N_check_pairs_0 ["faces", "pairs"] (defScope s_check_pairs_0) := ⟨rfl, rfl, rfl, by decide +kernel, rfl, by decide +kernel, by decide +kernel⟩
theorem S_cross_meets_0 : FnScope N_cross_meets_0 ["one", "other"] (defScope s_cross_meets_0) := ⟨rfl, rfl, rfl, by decide +kernel, rfl, by decide +kernel, by decide +kernel⟩
theorem S_diagonals_for_0 : FnScope N_diagonals_for_0 ["faces", "pairs"] (defScope s_diagonals_for_0) := ⟨rfl, rfl, rfl, by decide +kernel, rfl, by decide +kernel, by decide +kernel⟩
theorem S_flexagon_joining_0 : FnScope N_flexagon_joining_0 ["faces", "pairs"] (defScope s_flexagon_joining_0) := ⟨rfl, rfl, rfl, by decide +kernel, rfl, by decide +kernel, by decide +kernel⟩
theorem S_is_joining_0 : FnScope N_is_joining_0 ["faces", "pairs", "value"] (defScope s_is_joining_0) := ⟨rfl, rfl, rfl, by decide +kernel, rfl, by decide +kernel, by decide +kernel⟩
theorem S_law_cell_0 : FnScope N_law_cell_0 ["script", "k"] (defScope s_law_cell_0) := ⟨rfl, rfl, rfl, by decide +kernel, rfl, by decide +kernel, by decide +kernel⟩
theorem S_law_box_0 : FnScope N_law_box_0 ["great"] (defScope s_law_box_0) := ⟨rfl, rfl, rfl, by decide +kernel, rfl, by decide +kernel, by decide +kernel⟩
theorem S_law_take_0 : FnScope N_law_take_0 ["box", "many"] (defScope s_law_take_0) := ⟨rfl, rfl, rfl, by decide +kernel, rfl, by decide +kernel, by decide +kernel⟩
theorem S_law_same_0 : FnScope N_law_same_0 ["given", "due"] (defScope s_law_same_0) := ⟨rfl, rfl, rfl, by decide +kernel, rfl, by decide +kernel, by decide +kernel⟩
theorem S_law_same_1 : FnScope N_law_same_1 ["given", "due"] (defScope s_law_same_1) := ⟨rfl, rfl, rfl, by decide +kernel, rfl, by decide +kernel, by decide +kernel⟩
theorem S_law_same_2 : FnScope N_law_same_2 ["given", "due"] (defScope s_law_same_2) := ⟨rfl, rfl, rfl, by decide +kernel, rfl, by decide +kernel, by decide +kernel⟩
theorem S_law_same_3 : FnScope N_law_same_3 ["given", "due"] (defScope s_law_same_3) := ⟨rfl, rfl, rfl, by decide +kernel, rfl, by decide +kernel, by decide +kernel⟩
theorem S_law_flexagon_0 : FnScope N_law_flexagon_0 ["box", "many"] (defScope s_law_flexagon_0) := ⟨rfl, rfl, rfl, by decide +kernel, rfl, by decide +kernel, by decide +kernel⟩
theorem S_law_joined_0 : FnScope N_law_joined_0 ["flexagon", "one", "other"] (defScope s_law_joined_0) := ⟨rfl, rfl, rfl, by decide +kernel, rfl, by decide +kernel, by decide +kernel⟩
theorem S_law_right_0 : FnScope N_law_right_0 ["flexagon", "many"] (defScope s_law_right_0) := ⟨rfl, rfl, rfl, by decide +kernel, rfl, by decide +kernel, by decide +kernel⟩
theorem S_law_crosses_0 : FnScope N_law_crosses_0 ["one", "other"] (defScope s_law_crosses_0) := ⟨rfl, rfl, rfl, by decide +kernel, rfl, by decide +kernel, by decide +kernel⟩
theorem S_law_pairs_0 : FnScope N_law_pairs_0 ["box", "flexagon"] (defScope s_law_pairs_0) := ⟨rfl, rfl, rfl, by decide +kernel, rfl, by decide +kernel, by decide +kernel⟩
theorem S_law_0 : FnScope N_law_0 ["script"] (defScope s_law_0) := ⟨rfl, rfl, rfl, by decide +kernel, rfl, by decide +kernel, by decide +kernel⟩
theorem all_mk {l : PySem.W.OpenLaw} {w : World} {K : PySem.W.Frag} {h : Heap} {mg : Str → Option Value} {fa : Addr} (an : ∀ ns : List Int, ns.length ≤ 63 → ∃ m, f_law_0.f [.fz (.rol (ns.map .int))] = some (.ret (.fz (.bl true)) m)) (X : K.In h) (G : h.Ns mainGlobals mg) (hfa : mg "law" = some (.ref fa))
    (D0 : DefH K "is_integer" "is_integer" s_is_integer_0) (D1 : DefH K "is_within" "is_within" s_is_within_0) (D2 : DefH K "is_index" "is_index" s_is_index_0) (D3 : DefH K "is_list" "is_list" s_is_list_0) (D4 : DefH K "is_tuple" "is_tuple" s_is_tuple_0) (D5 : DefH K "ascends" "ascends" s_ascends_0) (D6 : DefH K "check_faces" "check_faces" s_check_faces_0) (D7 : DefH K "is_pair" "is_pair" s_is_pair_0) (D8 : DefH K "are_neighbors" "are_neighbors" s_are_neighbors_0) (D9 : DefH K "is_diagonal" "is_diagonal" s_is_diagonal_0) (D10 : DefH K "cross_polygons" "cross" s_cross_polygons_0) (D11 : DefH K "is_flexagon" "is_flexagon" s_is_flexagon_0) (D12 : DefH K "check_flexagon" "check_flexagon" s_check_flexagon_0) (D13 : DefH K "is_joined" "is_joined" s_is_joined_0) (D14 : DefH K "list_of" "list_of" s_list_of_0) (D15 : DefH K "states_of" "states_of" s_states_of_0) (D16 : DefH K "pairs_of" "pairs_of" s_pairs_of_0) (D17 : DefH K "check_pairs" "check_pairs" s_check_pairs_0) (D18 : DefH K "cross_meets" "cross" s_cross_meets_0) (D19 : DefH K "diagonals_for" "diagonals_for" s_diagonals_for_0) (D20 : DefH K "flexagon_joining" "flexagon_joining" s_flexagon_joining_0) (D21 : DefH K "is_joining" "is_joining" s_is_joining_0) (D22 : DefH K "_law_cell" "_law_cell" s_law_cell_0) (D23 : DefH K "_law_box" "_law_box" s_law_box_0) (D24 : DefH K "_law_take" "_law_take" s_law_take_0) (D25 : DefH K "_law_same" "_law_same" s_law_same_0) (D26 : DefH K "_law_flexagon" "_law_flexagon" s_law_flexagon_0) (D27 : DefH K "_law_joined" "_law_joined" s_law_joined_0) (D28 : DefH K "_law_right" "_law_right" s_law_right_0) (D29 : DefH K "_law_crosses" "_law_crosses" s_law_crosses_0) (D30 : DefH K "_law_pairs" "_law_pairs" s_law_pairs_0) (D31 : DefH K "law" "law" s_law_0) (Gh : GlHs K gn gs) (B0 : PySem.W.nsIn K mainGlobals (Str.ofString "len") = some none) (B1 : PySem.W.nsIn K mainGlobals (Str.ofString "abs") = some none) (B2 : PySem.W.nsIn K mainGlobals (Str.ofString "min") = some none) (B3 : PySem.W.nsIn K mainGlobals (Str.ofString "max") = some none) (B4 : PySem.W.nsIn K mainGlobals (Str.ofString "sum") = some none) (B5 : PySem.W.nsIn K mainGlobals (Str.ofString "sorted") = some none) (B6 : PySem.W.nsIn K mainGlobals (Str.ofString "tuple") = some none) (B7 : PySem.W.nsIn K mainGlobals (Str.ofString "list") = some none) (B8 : PySem.W.nsIn K mainGlobals (Str.ofString "int") = some none) (B9 : PySem.W.nsIn K mainGlobals (Str.ofString "any") = some none) (B10 : PySem.W.nsIn K mainGlobals (Str.ofString "all") = some none) (B11 : PySem.W.nsIn K mainGlobals (Str.ofString "isinstance") = some none) (B12 : PySem.W.nsIn K mainGlobals (Str.ofString "set") = some none) (B13 : PySem.W.nsIn K mainGlobals (Str.ofString "range") = some none) (B14 : PySem.W.nsIn K mainGlobals (Str.ofString "enumerate") = some none) (B15 : PySem.W.nsIn K mainGlobals (Str.ofString "zip") = some none) (B16 : PySem.W.nsIn K mainGlobals (Str.ofString "bool") = some none) (B17 : PySem.W.nsIn K mainGlobals (Str.ofString "str") = some none) (B18 : PySem.W.nsIn K mainGlobals (Str.ofString "dict") = some none) (B19 : PySem.W.nsIn K mainGlobals (Str.ofString "reversed") = some none) :
    ∃ fd : FuncData, (∀ (s : Shared) (v : Value), BindsTo s fd ⟨[v], []⟩ [("script", v)]) ∧ ∀ base : Heap, K.In base → base.Ns mainGlobals mg → FnOk l.prog w K mg base (L2.CX l.prog w) 35 fa fd ["script"] (spLaw K 63) := by
  have Gs : Gls K mg gn gs := Gls.mk' X G Gh (by
    intro x hx
    simp only [blts, List.mem_cons, List.not_mem_nil, or_false] at hx
    rcases hx with rfl | rfl | rfl | rfl | rfl | rfl | rfl | rfl | rfl | rfl | rfl | rfl | rfl | rfl | rfl | rfl | rfl | rfl | rfl | rfl
    all_goals assumption)
  have A_0 : ∀ base, AllT l.prog w K mg base (fun _ => none) fs l_0 := fun _ => AllT.nil
  have A_1 : ∀ base, AllT l.prog w K mg base (fun _ => none) fs l_1 := AllT.def X G (N := N_is_integer_0) Gs A_0 rfl D0 (S_is_integer_0) (by decide) (by decide) (by decide +kernel) c_is_integer_0
  have A_2 : ∀ base, AllT l.prog w K mg base (fun _ => none) fs l_2 := AllT.def X G (N := N_is_within_0) Gs A_1 rfl D1 (S_is_within_0) (by decide) (by decide) (by decide +kernel) c_is_within_0
  have A_3 : ∀ base, AllT l.prog w K mg base (fun _ => none) fs l_3 := AllT.def X G (N := N_is_index_0) Gs A_2 rfl D2 (S_is_index_0) (by decide) (by decide) (by decide +kernel) c_is_index_0
  have A_4 : ∀ base, AllT l.prog w K mg base (fun _ => none) fs l_4 := AllT.def X G (N := N_is_list_0) Gs A_3 rfl D3 (S_is_list_0) (by decide) (by decide) (by decide +kernel) c_is_list_0
  have A_5 : ∀ base, AllT l.prog w K mg base (fun _ => none) fs l_5 := AllT.def X G (N := N_is_tuple_0) Gs A_4 rfl D4 (S_is_tuple_0) (by decide) (by decide) (by decide +kernel) c_is_tuple_0
  have A_6 : ∀ base, AllT l.prog w K mg base (fun _ => none) fs l_6 := AllT.def X G (N := N_ascends_0) Gs A_5 rfl D5 (S_ascends_0) (by decide) (by decide) (by decide +kernel) c_ascends_0
  have A_7 : ∀ base, AllT l.prog w K mg base (fun _ => none) fs l_7 := AllT.def X G (N := N_check_faces_0) Gs A_6 rfl D6 (S_check_faces_0) (by decide) (by decide) (by decide +kernel) c_check_faces_0
  have A_8 : ∀ base, AllT l.prog w K mg base (fun _ => none) fs l_8 := AllT.def X G (N := N_is_pair_0) Gs A_7 rfl D7 (S_is_pair_0) (by decide) (by decide) (by decide +kernel) c_is_pair_0
  have A_9 : ∀ base, AllT l.prog w K mg base (fun _ => none) fs l_9 := AllT.def X G (N := N_are_neighbors_0) Gs A_8 rfl D8 (S_are_neighbors_0) (by decide) (by decide) (by decide +kernel) c_are_neighbors_0
  have A_10 : ∀ base, AllT l.prog w K mg base (fun _ => none) fs l_10 := AllT.def X G (N := N_is_diagonal_0) Gs A_9 rfl D9 (S_is_diagonal_0) (by decide) (by decide) (by decide +kernel) c_is_diagonal_0
  have A_11 : ∀ base, AllT l.prog w K mg base (fun _ => none) fs l_11 := AllT.def X G (N := N_cross_polygons_0) Gs A_10 rfl D10 (S_cross_polygons_0) (by decide) (by decide) (by decide +kernel) c_cross_polygons_0
  have A_12 : ∀ base, AllT l.prog w K mg base (fun _ => none) fs l_12 := AllT.def X G (N := N_is_flexagon_0) Gs A_11 rfl D11 (S_is_flexagon_0) (by decide) (by decide) (by decide +kernel) c_is_flexagon_0
  have A_13 : ∀ base, AllT l.prog w K mg base (fun _ => none) fs l_13 := AllT.def X G (N := N_check_flexagon_0) Gs A_12 rfl D12 (S_check_flexagon_0) (by decide) (by decide) (by decide +kernel) c_check_flexagon_0
  have A_14 : ∀ base, AllT l.prog w K mg base (fun _ => none) fs l_14 := AllT.def X G (N := N_is_joined_0) Gs A_13 rfl D13 (S_is_joined_0) (by decide) (by decide) (by decide +kernel) c_is_joined_0
  have A_15 : ∀ base, AllT l.prog w K mg base (fun _ => none) fs l_15 := AllT.def X G (N := N_list_of_0) Gs A_14 rfl D14 (S_list_of_0) (by decide) (by decide) (by decide +kernel) c_list_of_0
  have A_16 : ∀ base, AllT l.prog w K mg base (fun _ => none) fs l_16 := AllT.def X G (N := N_states_of_0) Gs A_15 rfl D15 (S_states_of_0) (by decide) (by decide) (by decide +kernel) c_states_of_0
  have A_17 : ∀ base, AllT l.prog w K mg base (fun _ => none) fs l_17 := AllT.def X G (N := N_pairs_of_0) Gs A_16 rfl D16 (S_pairs_of_0) (by decide) (by decide) (by decide +kernel) c_pairs_of_0
  have A_18 : ∀ base, AllT l.prog w K mg base (fun _ => none) fs l_18 := AllT.def X G (N := N_check_pairs_0) Gs A_17 rfl D17 (S_check_pairs_0) (by decide) (by decide) (by decide +kernel) c_check_pairs_0
  have A_19 : ∀ base, AllT l.prog w K mg base (fun _ => none) fs l_19 := AllT.def X G (N := N_cross_meets_0) Gs A_18 rfl D18 (S_cross_meets_0) (by decide) (by decide) (by decide +kernel) c_cross_meets_0
  have A_20 : ∀ base, AllT l.prog w K mg base (fun _ => none) fs l_20 := AllT.def X G (N := N_diagonals_for_0) Gs A_19 rfl D19 (S_diagonals_for_0) (by decide) (by decide) (by decide +kernel) c_diagonals_for_0
  have A_21 : ∀ base, AllT l.prog w K mg base (fun _ => none) fs l_21 := AllT.def X G (N := N_flexagon_joining_0) Gs A_20 rfl D20 (S_flexagon_joining_0) (by decide) (by decide) (by decide +kernel) c_flexagon_joining_0
  have A_22 : ∀ base, AllT l.prog w K mg base (fun _ => none) fs l_22 := AllT.def X G (N := N_is_joining_0) Gs A_21 rfl D21 (S_is_joining_0) (by decide) (by decide) (by decide +kernel) c_is_joining_0
  have A_23 : ∀ base, AllT l.prog w K mg base (fun _ => none) fs l_23 := AllT.def X G (N := N_law_cell_0) Gs A_22 rfl D22 (S_law_cell_0) (by decide) (by decide) (by decide +kernel) c_law_cell_0
  have A_24 : ∀ base, AllT l.prog w K mg base (fun _ => none) fs l_24 := AllT.def X G (N := N_law_box_0) Gs A_23 rfl D23 (S_law_box_0) (by decide) (by decide) (by decide +kernel) c_law_box_0
  have A_25 : ∀ base, AllT l.prog w K mg base (fun _ => none) fs l_25 := AllT.def X G (N := N_law_take_0) Gs A_24 rfl D24 (S_law_take_0) (by decide) (by decide) (by decide +kernel) c_law_take_0
  have A_26 : ∀ base, AllT l.prog w K mg base (fun _ => none) fs l_26 := AllT.def X G (N := N_law_same_0) Gs A_25 rfl D25 (S_law_same_0) (by decide) (by decide) (by decide +kernel) c_law_same_0
  have A_27 : ∀ base, AllT l.prog w K mg base (fun _ => none) fs l_27 := AllT.def X G (N := N_law_same_1) Gs A_26 rfl D25 (S_law_same_1) (by decide) (by decide) (by decide +kernel) c_law_same_1
  have A_28 : ∀ base, AllT l.prog w K mg base (fun _ => none) fs l_28 := AllT.def X G (N := N_law_same_2) Gs A_27 rfl D25 (S_law_same_2) (by decide) (by decide) (by decide +kernel) c_law_same_2
  have A_29 : ∀ base, AllT l.prog w K mg base (fun _ => none) fs l_29 := AllT.def X G (N := N_law_same_3) Gs A_28 rfl D25 (S_law_same_3) (by decide) (by decide) (by decide +kernel) c_law_same_3
  have A_30 : ∀ base, AllT l.prog w K mg base (fun _ => none) fs l_30 := AllT.def X G (N := N_law_flexagon_0) Gs A_29 rfl D26 (S_law_flexagon_0) (by decide) (by decide) (by decide +kernel) c_law_flexagon_0
  have A_31 : ∀ base, AllT l.prog w K mg base (fun _ => none) fs l_31 := AllT.def X G (N := N_law_joined_0) Gs A_30 rfl D27 (S_law_joined_0) (by decide) (by decide) (by decide +kernel) c_law_joined_0
  have A_32 : ∀ base, AllT l.prog w K mg base (fun _ => none) fs l_32 := AllT.def X G (N := N_law_right_0) Gs A_31 rfl D28 (S_law_right_0) (by decide) (by decide) (by decide +kernel) c_law_right_0
  have A_33 : ∀ base, AllT l.prog w K mg base (fun _ => none) fs l_33 := AllT.def X G (N := N_law_crosses_0) Gs A_32 rfl D29 (S_law_crosses_0) (by decide) (by decide) (by decide +kernel) c_law_crosses_0
  have A_34 : ∀ base, AllT l.prog w K mg base (fun _ => none) fs l_34 := AllT.def X G (N := N_law_pairs_0) Gs A_33 rfl D30 (S_law_pairs_0) (by decide) (by decide) (by decide +kernel) c_law_pairs_0
  obtain ⟨f, fd, a, F⟩ := D31
  have e := hfa.symm.trans (PySem.W.mg_of X G a)
  cases e
  obtain ⟨q1, q2⟩ := law_fx (n := 63) (N := N_law_0) A_34 Gs F S_law_0 (by decide +kernel) c_law_0 an
  exact ⟨fd, q1, fun base _ _ => q2 base⟩
theorem walk {l : PySem.W.OpenLaw} {q : Program} {loose : List Str} {XP : (Str → Option Value) → Heap → Prop} {YP : World → Heap → Prop} {d : DefRec} {K : Params → PySem.W.Frag} (hn : l.most = some 63) (hdf : d.params.defaults = [])
    (hY : ∀ (w : World) (h : Heap), YP w h → (K w.params).In h)
    (F : ∀ (w : World) (mg : Str → Option Value) (fa : Addr) (h : Heap), (K w.params).In h → h.Ns mainGlobals mg → mg d.name = some (.ref fa) →
      ∃ fd : FuncData, (∀ (s : Shared) (u : Value), BindsTo s fd ⟨[u], []⟩ [("script", u)]) ∧ ∀ base : Heap, (K w.params).In base → base.Ns mainGlobals mg → FnOk l.prog w (K w.params) mg base (L2.CX l.prog w) 35 fa fd ["script"] (spLaw (K w.params) 63)) :
    PySem.W.WalkO q loose XP YP l.row.toRowW d [] (fun f vs => PySem.call f vs) :=
  L2.walk_of (n := 63) (k := 35) (x := "script") (CX := fun w => L2.CX l.prog w) (sp := fun w => spLaw (K w.params) 63) hn (by decide) hdf ⟨rfl, by decide, by decide⟩ hY F (fun _ _ a ns hl _ hS => ⟨a, ns, rfl, hS, hl, fun _ => rfl⟩) fun w H s e s' h => cx_none H s e s' h
end K53
open PySem PySem.W PyProof.Rows
set_option maxRecDepth 100000 in
set_option maxHeartbeats 0 in
theorem PySem.Challenge.cw_flexhouse_k53_whole_wished_pairs_holds : PySem.Challenge.rw_flexhouse_k53_whole_wished_pairs.Holds := by
  w_on; o_law; k_head; (case hw => w_witness2)
  k_fill
  refine K53.walk (l := PySem.Challenge.rw_flexhouse_k53_whole_wished_pairs) rfl rfl (fun w h Y => PySem.W.kIn_of Y) ?F
  case F =>
    intro w mg fa h KX G hmg
    refine' K53.all_mk K53.answer KX G hmg ?D0 ?D1 ?D2 ?D3 ?D4 ?D5 ?D6 ?D7 ?D8 ?D9 ?D10 ?D11 ?D12 ?D13 ?D14 ?D15 ?D16 ?D17 ?D18 ?D19 ?D20 ?D21 ?D22 ?D23 ?D24 ?D25 ?D26 ?D27 ?D28 ?D29 ?D30 ?D31 ?Gh ?B0 ?B1 ?B2 ?B3 ?B4 ?B5 ?B6 ?B7 ?B8 ?B9 ?B10 ?B11 ?B12 ?B13 ?B14 ?B15 ?B16 ?B17 ?B18 ?B19
    case D0 =>
      refine' Fx.DefH.mk ?a ?l ?c ?k
      (case a => k_is); (case l => k_is); (case c => k_is); (case k => k_is)
    case D1 =>
      refine' Fx.DefH.mk ?a ?l ?c ?k
      (case a => k_is); (case l => k_is); (case c => k_is); (case k => k_is)
    case D2 =>
      refine' Fx.DefH.mk ?a ?l ?c ?k
      (case a => k_is); (case l => k_is); (case c => k_is); (case k => k_is)
    case D3 =>
      refine' Fx.DefH.mk ?a ?l ?c ?k
      (case a => k_is); (case l => k_is); (case c => k_is); (case k => k_is)
    case D4 =>
      refine' Fx.DefH.mk ?a ?l ?c ?k
      (case a => k_is); (case l => k_is); (case c => k_is); (case k => k_is)
    case D5 =>
      refine' Fx.DefH.mk ?a ?l ?c ?k
      (case a => k_is); (case l => k_is); (case c => k_is); (case k => k_is)
    case D6 =>
      refine' Fx.DefH.mk ?a ?l ?c ?k
      (case a => k_is); (case l => k_is); (case c => k_is); (case k => k_is)
    case D7 =>
      refine' Fx.DefH.mk ?a ?l ?c ?k
      (case a => k_is); (case l => k_is); (case c => k_is); (case k => k_is)
    case D8 =>
      refine' Fx.DefH.mk ?a ?l ?c ?k
      (case a => k_is); (case l => k_is); (case c => k_is); (case k => k_is)
    case D9 =>
      refine' Fx.DefH.mk ?a ?l ?c ?k
      (case a => k_is); (case l => k_is); (case c => k_is); (case k => k_is)
    case D10 =>
      refine' Fx.DefH.mk ?a ?l ?c ?k
      (case a => k_is); (case l => k_is); (case c => k_is); (case k => k_is)
    case D11 =>
      refine' Fx.DefH.mk ?a ?l ?c ?k
      (case a => k_is); (case l => k_is); (case c => k_is); (case k => k_is)
    case D12 =>
      refine' Fx.DefH.mk ?a ?l ?c ?k
      (case a => k_is); (case l => k_is); (case c => k_is); (case k => k_is)
    case D13 =>
      refine' Fx.DefH.mk ?a ?l ?c ?k
      (case a => k_is); (case l => k_is); (case c => k_is); (case k => k_is)
    case D14 =>
      refine' Fx.DefH.mk ?a ?l ?c ?k
      (case a => k_is); (case l => k_is); (case c => k_is); (case k => k_is)
    case D15 =>
      refine' Fx.DefH.mk ?a ?l ?c ?k
      (case a => k_is); (case l => k_is); (case c => k_is); (case k => k_is)
    case D16 =>
      refine' Fx.DefH.mk ?a ?l ?c ?k
      (case a => k_is); (case l => k_is); (case c => k_is); (case k => k_is)
    case D17 =>
      refine' Fx.DefH.mk ?a ?l ?c ?k
      (case a => k_is); (case l => k_is); (case c => k_is); (case k => k_is)
    case D18 =>
      refine' Fx.DefH.mk ?a ?l ?c ?k
      (case a => k_is); (case l => k_is); (case c => k_is); (case k => k_is)
    case D19 =>
      refine' Fx.DefH.mk ?a ?l ?c ?k
      (case a => k_is); (case l => k_is); (case c => k_is); (case k => k_is)
    case D20 =>
      refine' Fx.DefH.mk ?a ?l ?c ?k
      (case a => k_is); (case l => k_is); (case c => k_is); (case k => k_is)
    case D21 =>
      refine' Fx.DefH.mk ?a ?l ?c ?k
      (case a => k_is); (case l => k_is); (case c => k_is); (case k => k_is)
    case D22 =>
      refine' Fx.DefH.mk ?a ?l ?c ?k
      (case a => k_is); (case l => k_is); (case c => k_is); (case k => k_is)
    case D23 =>
      refine' Fx.DefH.mk ?a ?l ?c ?k
      (case a => k_is); (case l => k_is); (case c => k_is); (case k => k_is)
    case D24 =>
      refine' Fx.DefH.mk ?a ?l ?c ?k
      (case a => k_is); (case l => k_is); (case c => k_is); (case k => k_is)
    case D25 =>
      refine' Fx.DefH.mk ?a ?l ?c ?k
      (case a => k_is); (case l => k_is); (case c => k_is); (case k => k_is)
    case D26 =>
      refine' Fx.DefH.mk ?a ?l ?c ?k
      (case a => k_is); (case l => k_is); (case c => k_is); (case k => k_is)
    case D27 =>
      refine' Fx.DefH.mk ?a ?l ?c ?k
      (case a => k_is); (case l => k_is); (case c => k_is); (case k => k_is)
    case D28 =>
      refine' Fx.DefH.mk ?a ?l ?c ?k
      (case a => k_is); (case l => k_is); (case c => k_is); (case k => k_is)
    case D29 =>
      refine' Fx.DefH.mk ?a ?l ?c ?k
      (case a => k_is); (case l => k_is); (case c => k_is); (case k => k_is)
    case D30 =>
      refine' Fx.DefH.mk ?a ?l ?c ?k
      (case a => k_is); (case l => k_is); (case c => k_is); (case k => k_is)
    case D31 =>
      refine' Fx.DefH.mk ?a ?l ?c ?k
      (case a => k_is); (case l => k_is); (case c => k_is); (case k => k_is)
    case Gh =>
      refine' Fx.GlHs.cons (Fx.GlH.int ?fxg0) ?fxr0
      (case fxg0 => k_is)
      refine' Fx.GlHs.cons (Fx.GlH.int ?fxg1) ?fxr1
      (case fxg1 => k_is)
      exact Fx.GlHs.nil
    (case B0 => k_is)
    (case B1 => k_is)
    (case B2 => k_is)
    (case B3 => k_is)
    (case B4 => k_is)
    (case B5 => k_is)
    (case B6 => k_is)
    (case B7 => k_is)
    (case B8 => k_is)
    (case B9 => k_is)
    (case B10 => k_is)
    (case B11 => k_is)
    (case B12 => k_is)
    (case B13 => k_is)
    (case B14 => k_is)
    (case B15 => k_is)
    (case B16 => k_is)
    (case B17 => k_is)
    (case B18 => k_is)
    (case B19 => k_is)

