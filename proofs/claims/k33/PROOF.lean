import PyProof.Rows.All
import Wide.All
import OpenK.AllK
import Wide.FinOn
import PyProof.EqAt
import PyProof.EqKinds
import PyProof.TupleCall
import HandS.ForMost
import HandS.ForExc
import HandS.Walk
import HandS.Wide
import HandS.IsInst
import HandS.TupAny
import HandS.TupLe
import HandS.TupMul
import HandS.FStr
import HandS.CallSlots
import HandS.Style
import HandS.Flow
import HandS.More
import HandS.Lambda
import HandS.ExcInit
import HandS.ExcSuper
import HandS.ExcIs
import HandS.ExcField
import HandS.Hot
import HandS.HotCalls
import KE.GoesEnum
import HandS.WordsExc
import HandS.ClsMeth
import HandS.Nested
import KE.KExcSuper
import HandS.HeadHook4
import HandS.HeadWalk
import KE.KStateDown
import Lean
import HandS.Words
import HandS.Head0
import HandS.Head1
import HandS.Head2
import HandS.HeadEnd
import PySem.Challenge.RW_datesheld_k33_names_and_dates_that_slip
set_option Elab.async false
set_option linter.all false
set_option maxRecDepth 100000
set_option maxHeartbeats 4000000
/-! Mill1: a small language of values (the program's defs without positions), and what it computes. -/
namespace Mill
open PySem

inductive D where
  | non | bl (b : Bool) | int (i : Int) | str (x : Str)
  | tup (ds : List D)
  | ref (n : Nat)
  | fro (ds : List D)
  deriving Inhabited

inductive Cell where
  | lst (ds : List D)
  deriving Inhabited

abbrev AH := List Cell
abbrev Sl := List (Option D)

/-- a value in passing: a datum, or a list that nothing else holds yet -/
inductive Tm where
  | d (x : D) | l (ds : List D)
  deriving Inhabited

inductive R (α : Type) where
  | ok (a : α) (h : AH) | exc (c : Str) (w : D) (h : AH) | err
  deriving Inhabited

def R.bind {α β : Type} (r : R α) (f : α → AH → R β) : R β := match r with
  | .ok a h => f a h
  | .exc c w h => .exc c w h
  | .err => .err
@[simp] theorem R.bind_ok {α β : Type} (a : α) (h : AH) (f : α → AH → R β) : (R.ok a h).bind f = f a h := rfl
@[simp] theorem R.bind_exc {α β : Type} (c : Str) (w : D) (h : AH) (f : α → AH → R β) : (R.exc c w h : R α).bind f = .exc c w h := rfl
@[simp] theorem R.bind_err {α β : Type} (f : α → AH → R β) : (R.err : R α).bind f = .err := rfl

inductive Tg where
  | nm (i : Nat) | tp (is : List Nat)

mutual
inductive E where
  | var (i : Nat)
  | glob (x : Str)
  | int (i : Int) | bl (b : Bool) | non | str (x : Str)
  | bin (op : Operator) (a b : E)
  | neg (a : E)
  | not (a : E)
  | cmp (op : CmpOp) (a b : E)
  | chn (o1 o2 : CmpOp) (a b c : E)
  | and (a b : E) | or (a b : E)
  | ife (c a b : E)
  | tup (es : Es) | lst (es : Es)
  | ix (a b : E)
  | sl (a : E) (lo hi : Op)
  | rev (a : E)
  | call (f : Str) (as : Es)
  | bi (f : Str) (as : Es)
  | meth (m : Str) (o : E) (as : Es)
  | isin (a : E) (ty : String)
  | comp (elt : E) (tg : Tg) (it : It) (c : Op)
  | fmt (a : E)
  | fstr (es : Es)
  | heard (cs : List Str) (e : E)
inductive Es where
  | nil | cons (e : E) (es : Es)
inductive Op where
  | no | yes (e : E)
inductive It where
  | seq (e : E) | rng1 (a : E) | rng2 (a b : E) | enum (e : E) | zip3 (a b c : E)
end

mutual
inductive S where
  | ex (e : E)
  | set (t : Tg) (e : E)
  | par (i j : Nat) (a b : E)
  | setIx (o i e : E)
  | ret (e : E) | retN
  | ite (c : E) (a b : Ss)
  | for_ (t : Tg) (it : It) (b : Ss)
  | while_ (c : E) (b : Ss)
  | raise (c : Str) (e : E)
  | brk | cnt | pass
  | clr (i : Nat)
inductive Ss where
  | nil | cons (s : S) (ss : Ss)
end

/-! ### what is computed -/
def nam : Tm → AH → D × AH
  | .d x, h => (x, h)
  | .l ds, h => (.ref h.length, h ++ [.lst ds])
def namAll : List Tm → AH → List D × AH
  | [], h => ([], h)
  | t :: ts, h => ((nam t h).1 :: (namAll ts (nam t h).2).1, (namAll ts (nam t h).2).2)

/-- a list that may be written -/
def viewM : Tm → AH → Option (List D)
  | .l ds, _ => some ds
  | .d (.ref n), h => match h[n]? with | some (.lst ds) => some ds | _ => none
  | _, _ => none
def viewL : Tm → AH → Option (List D)
  | .d (.fro ds), _ => some ds
  | t, h => viewM t h
def viewS : Tm → AH → Option (List D)
  | .d (.tup ds), _ => some ds
  | t, h => viewL t h

mutual
def pyD : D → Option PyData
  | .non => some .none
  | .bl b => some (.bool b)
  | .int i => some (.int i)
  | .str x => some (.str x)
  | .tup ds => (pyDs ds).map .tuple
  | .fro ds => (pyDs ds).map .list
  | .ref _ => none
def pyDs : List D → Option (List PyData)
  | [] => some []
  | d :: ds => match pyD d, pyDs ds with
    | some a, some as => some (a :: as)
    | _, _ => none
end
def pyT (t : Tm) (h : AH) : Option PyData := match t with
  | .d (.ref n) => (match h[n]? with | some (.lst ds) => (pyDs ds).map .list | _ => none)
  | .l ds => (pyDs ds).map .list
  | .d x => pyD x
def eqT (a b : Tm) (h : AH) : Option Bool := match pyT a h, pyT b h with
  | some d, some e => if SeqAt.shaped d && SeqAt.shaped e then some (PyData.eqv d e) else none
  | _, _ => none

def flatD : D → Bool
  | .non => true | .bl _ => true | .int _ => true | .str _ => true | _ => false
def eqF : D → D → Bool
  | .non, .non => true
  | .bl a, .bl b => a == b
  | .bl a, .int b => (if a then 1 else 0) == b
  | .int a, .bl b => a == (if b then 1 else 0)
  | .int a, .int b => a == b
  | .str a, .str b => a == b
  | _, _ => false
def inD (x : D) (ds : List D) : Option Bool := if flatD x && ds.all flatD then some (ds.any fun y => eqF y x) else none

def mulOk (i j : Int) : Bool := decide (-(2 ^ 64) < i ∧ i < 2 ^ 64) || decide (-(2 ^ 64) < j ∧ j < 2 ^ 64) || decide (i.natAbs.log2 + j.natAbs.log2 < 1000000)
def addT (a b : Tm) (h : AH) : R Tm := match a, b with
  | .d (.int i), .d (.int j) => .ok (.d (.int (i + j))) h
  | .d (.str x), .d (.str y) => if x.length + y.length ≤ sizeLine then .ok (.d (.str (x ++ y))) h else .err
  | .d (.tup xs), .d (.tup ys) => if xs.length + ys.length ≤ sizeLine then .ok (.d (.tup (xs ++ ys))) h else .err
  | a, b => (match viewM a h, viewM b h with
    | some xs, some ys => if xs.length + ys.length ≤ sizeLine then .ok (.l (xs ++ ys)) h else .err
    | _, _ => .err)
def subT (a b : Tm) (h : AH) : R Tm := match a, b with
  | .d (.int i), .d (.int j) => .ok (.d (.int (i - j))) h
  | _, _ => .err
def mulT (a b : Tm) (h : AH) : R Tm := match a, b with
  | .d (.int i), .d (.int j) => if mulOk i j then .ok (.d (.int (i * j))) h else .err
  | .d (.tup xs), .d (.int k) => if 2 ≤ k ∧ k ≤ 1000 ∧ xs.length ≤ 1000 ∧ xs ≠ [] then .ok (.d (.tup (List.replicate k.toNat xs).flatten)) h else .err
  | .d (.str x), .d (.int k) => if 2 ≤ k ∧ k ≤ 1000 ∧ x.length ≤ 1000 ∧ 1 ≤ x.length then .ok (.d (.str ⟨(List.replicate k.toNat x.cps).foldl (· ++ ·) #[]⟩)) h else .err
  | _, _ => .err
def fdivT (a b : Tm) (h : AH) : R Tm := match a, b with
  | .d (.int i), .d (.int j) => if 0 < j ∧ j.natAbs.log2 < 9000 then .ok (.d (.int (i / j))) h else .err
  | _, _ => .err
def modT (a b : Tm) (h : AH) : R Tm := match a, b with
  | .d (.int i), .d (.int j) => if 0 < j then .ok (.d (.int (i % j))) h else .err
  | _, _ => .err
def powT (a b : Tm) (h : AH) : R Tm := match a, b with
  | .d (.int i), .d (.int j) => if 0 ≤ j ∧ j ≤ 1000000 ∧ i.natAbs < 2 ^ 64 then .ok (.d (.int (i ^ j.toNat))) h else .err
  | _, _ => .err
def binT (op : Operator) (a b : Tm) (h : AH) : R Tm := match op with
  | .Add => addT a b h
  | .Sub => subT a b h
  | .Mult => mulT a b h
  | .FloorDiv => fdivT a b h
  | .Mod => modT a b h
  | .Pow => powT a b h
  | _ => .err

def isNone (t : Tm) : Bool := match t with | .d .non => true | _ => false
def isIs (a b : Tm) : Option Bool := match a, b with
  | a, .d .non => some (isNone a)
  | .d .non, .d (.bl _) => some false
  | .d (.bl a), .d (.bl b) => some (a == b)
  | .d (.int _), .d (.bl _) => some false
  | .d (.str _), .d (.bl _) => some false
  | .d (.tup _), .d (.bl _) => some false
  | .d (.ref _), .d (.bl _) => some false
  | .d (.fro _), .d (.bl _) => some false
  | .l _, .d (.bl _) => some false
  | _, _ => none
def inT (a b : Tm) (h : AH) : Option Bool := match a, b with
  | .d (.str x), .d (.str y) => some (!(Builtin.Str.occurrences y x 0 y.length 1).isEmpty)
  | .d x, b => (match viewS b h with | some ds => inD x ds | none => none)
  | _, _ => none
def ltT (f : Int → Int → Bool) (a b : Tm) : Option Bool := match a, b with
  | .d (.int i), .d (.int j) => some (f i j)
  | _, _ => none
def cmpT (op : CmpOp) (a b : Tm) (h : AH) : Option Bool := match op with
  | .Lt => ltT (fun i j => decide (i < j)) a b
  | .LtE => ltT (fun i j => decide (i ≤ j)) a b
  | .Gt => ltT (fun i j => decide (j < i)) a b
  | .GtE => ltT (fun i j => decide (j ≤ i)) a b
  | .Eq => eqT a b h
  | .NotEq => (eqT a b h).map (!·)
  | .Is => isIs a b
  | .IsNot => (isIs a b).map (!·)
  | .In => inT a b h
  | .NotIn => (inT a b h).map (!·)
def cmpR (op : CmpOp) (a b : Tm) (h : AH) : R Tm := match cmpT op a b h with
  | some k => .ok (.d (.bl k)) h
  | none => .err

/-- its truth -/
def truT (t : Tm) (h : AH) : Option Bool := match t with
  | .d .non => some false
  | .d (.bl b) => some b
  | .d (.int i) => some (i != 0)
  | .d (.str x) => if x.length ≤ sizeLine then some (x.length != 0) else none
  | .d (.tup ds) => some (!ds.isEmpty)
  | t => match viewL t h with | some ds => some (!ds.isEmpty) | none => none

def ixT (a b : Tm) (h : AH) : R Tm := match b with
  | .d (.int i) => (match a with
    | .d (.str z) => if z.length ≤ sizeLine then (match L2.atI z.cps.toList i with | some c => .ok (.d (.str ⟨#[c]⟩)) h | none => .err) else .err
    | a => match viewS a h with
      | some ds => (match L2.atI ds i with | some x => .ok (.d x) h | none => .err)
      | none => .err)
  | _ => .err

def cutL {α : Type} (xs : List α) (lo hi : Option Int) : List α := (xs.drop (HT.sIx xs.length 0 lo)).take (HT.sIx xs.length xs.length hi - HT.sIx xs.length 0 lo)
def slT (a : Tm) (lo hi : Option Int) (h : AH) : R Tm := match a with
  | .d (.tup ds) => .ok (.d (.tup (cutL ds lo hi))) h
  | a => match viewL a h with
    | some ds => .ok (.l (cutL ds lo hi)) h
    | none => .err
def revT (a : Tm) (h : AH) : R Tm := match a with
  | .d (.tup ds) => .ok (.d (.tup ds.reverse)) h
  | a => match viewL a h with
    | some ds => .ok (.l ds.reverse) h
    | none => .err

/-- the built-in type of a datum -/
def tyT (t : Tm) (h : AH) : Option String := match t with
  | .d .non => some "NoneType"
  | .d (.bl _) => some "bool"
  | .d (.int _) => some "int"
  | .d (.str _) => some "str"
  | .d (.tup _) => some "tuple"
  | t => match viewL t h with | some _ => some "list" | none => none
def isT (t : Tm) (ty : String) (h : AH) : Option Bool := match tyT t h with
  | some a => L2.kitB a ty
  | none => none

def strs? : List D → Option (List Str)
  | [] => some []
  | .str x :: r => (strs? r).map (x :: ·)
  | _ => none
def bls? : List D → Option (List Bool)
  | [] => some []
  | .bl x :: r => (bls? r).map (x :: ·)
  | _ => none

def biInt (as : List Tm) (h : AH) : R Tm := match as with
    | [.d (.int i)] => .ok (.d (.int i)) h
    | [.d (.bl b)] => .ok (.d (.int (if b then 1 else 0))) h
    | _ => .err
def biLen (as : List Tm) (h : AH) : R Tm := match as with
    | [.d (.str x)] => if x.length ≤ sizeLine then .ok (.d (.int x.length)) h else .err
    | [t] => (match viewS t h with | some ds => .ok (.d (.int ds.length)) h | none => .err)
    | _ => .err
def biMax (as : List Tm) (h : AH) : R Tm := match as with
    | [.d (.int i), .d (.int j)] => .ok (.d (.int (if j > i then j else i))) h
    | _ => .err
def biMin (as : List Tm) (h : AH) : R Tm := match as with
    | [.d (.int i), .d (.int j)] => .ok (.d (.int (if j < i then j else i))) h
    | _ => .err
def biTuple (as : List Tm) (h : AH) : R Tm := match as with
    | [.d (.tup ds)] => .ok (.d (.tup ds)) h
    | [t] => (match viewL t h with | some ds => .ok (.d (.tup ds)) h | none => .err)
    | _ => .err
def biList (as : List Tm) (h : AH) : R Tm := match as with
    | [t] => (match viewS t h with | some ds => .ok (.l ds) h | none => .err)
    | _ => .err
def biStr (as : List Tm) (h : AH) : R Tm := match as with
    | [.d (.int i)] => if i.natAbs.log2 < 1920 then .ok (.d (.str (toString i))) h else .err
    | _ => .err
def biAll (as : List Tm) (h : AH) : R Tm := match as with
    | [t] => (match viewL t h with | some ds => (match bls? ds with | some bs => .ok (.d (.bl (bs.all id))) h | none => .err) | none => .err)
    | _ => .err
def biAny (as : List Tm) (h : AH) : R Tm := match as with
    | [t] => (match viewL t h with | some ds => (match bls? ds with | some bs => .ok (.d (.bl (bs.any id))) h | none => .err) | none => .err)
    | _ => .err
def biT (f : Str) (as : List Tm) (h : AH) : R Tm :=
  if f = "int" then biInt as h
  else if f = "len" then biLen as h
  else if f = "max" then biMax as h
  else if f = "min" then biMin as h
  else if f = "tuple" then biTuple as h
  else if f = "list" then biList as h
  else if f = "str" then biStr as h
  else if f = "all" then biAll as h
  else if f = "any" then biAny as h
  else .err

def mAppend (o t : Tm) (h : AH) : R Tm := match o with
  | .d (.ref n) => (match h[n]? with
      | some (.lst ds) => if ds.length < sizeLine then .ok (.d .non) ((nam t h).2.set n (.lst (ds ++ [(nam t h).1]))) else .err
      | _ => .err)
  | _ => .err
def mExtend (o t : Tm) (h : AH) : R Tm := match o with
  | .d (.ref n) => (match h[n]?, viewM t h with
      | some (.lst ds), some es => if ds.length + es.length ≤ sizeLine then .ok (.d .non) (h.set n (.lst (ds ++ es))) else .err
      | _, _ => .err)
  | _ => .err
def mJoin (o t : Tm) (h : AH) : R Tm := match o with
  | .d (.str a) => (match viewS t h with
      | some ds => (match strs? ds with
        | some ys => if (ys.map (·.length)).sum + ys.length * a.length ≤ 16777216 then .ok (.d (.str (Txt.join a ys))) h else .err
        | none => .err)
      | none => .err)
  | _ => .err
/-- the receiver is such as the method wants -/
def recvOk (m : Str) (o : Tm) (h : AH) : Bool := match o with
  | .d (.ref n) => (m == "append" || m == "extend") && (match h[n]? with | some (.lst _) => true | _ => false)
  | .d (.str _) => m == "join"
  | _ => false
def methT (m : Str) (o : Tm) (as : List Tm) (h : AH) : R Tm := match as with
  | [t] => if m = "append" then mAppend o t h else if m = "extend" then mExtend o t h else if m = "join" then mJoin o t h else .err
  | _ => .err

/-- what a for walks: how many turns, the item of a turn, whether it still has so many -/
structure Src where
  len : Nat
  get : AH → Nat → Option D
  fin : AH → Bool
def Src.fix (ds : List D) : Src := ⟨ds.length, fun _ i => ds[i]?, fun _ => true⟩
def cellAt (n : Nat) (h : AH) : List D := match h[n]? with | some (.lst ds) => ds | _ => []
def srcT (t : Tm) (h : AH) : Option Src := match t with
  | .d (.tup ds) => some (.fix ds)
  | .d (.fro ds) => some (.fix ds)
  | .l ds => some (.fix ds)
  | .d (.str z) => some (.fix (z.cps.toList.map fun c => .str ⟨#[c]⟩))
  | .d (.ref n) => (match h[n]? with
    | some (.lst ds) => some ⟨ds.length, fun h i => (cellAt n h)[i]?, fun h => decide ((cellAt n h).length = ds.length)⟩
    | _ => none)
  | _ => none
def Src.enum (s : Src) : Src := ⟨s.len, fun h i => (s.get h i).map fun x => .tup [.int i, x], s.fin⟩

def setTg (t : Tg) (x : D) (ρ : Sl) : Option Sl := match t with
  | .nm i => some (ρ.set i (some x))
  | .tp is => (match x with
    | .tup ds => if ds.length = is.length then some ((is.zip ds).foldl (fun r p => r.set p.1 (some p.2)) ρ) else none
    | _ => none)

/-- a comprehension's loop -/
def compL (s : Src) (step : D → AH → R (Option D)) : Nat → Nat → List D → AH → R Tm
  | 0, _, acc, h => if s.fin h then .ok (.l acc) h else .err
  | k + 1, i, acc, h => (match s.get h i with
    | none => .err
    | some x => (match step x h with
      | .ok none h1 => compL s step k (i + 1) acc h1
      | .ok (some y) h1 => if acc.length < sizeLine then compL s step k (i + 1) (acc ++ [y]) h1 else .err
      | _ => .err))

structure Cfg where
  /-- own defs -/
  call : Str → List Tm → AH → R Tm
  /-- the module's constants -/
  glob : Str → Option D

def fmtT (t : Tm) : Option Str := match t with
  | .d (.str x) => if x.length ≤ sizeLine then some x else none
  | .d (.int i) => if i.natAbs.log2 < 1920 then some (toString i) else none
  | _ => none
def optI (t : Tm) : Option Int := match t with | .d (.int i) => some i | _ => none
def named (t : Tm) (h : AH) : R D := .ok (nam t h).1 (nam t h).2

mutual
def evE (C : Cfg) : E → Sl → AH → R Tm
  | .var i, ρ, h => (match ρ[i]? with | some (some x) => .ok (.d x) h | _ => .err)
  | .glob x, _, h => (match C.glob x with | some d => .ok (.d d) h | none => .err)
  | .int i, _, h => .ok (.d (.int i)) h
  | .bl b, _, h => .ok (.d (.bl b)) h
  | .non, _, h => .ok (.d .non) h
  | .str x, _, h => .ok (.d (.str x)) h
  | .bin op a b, ρ, h => (evE C a ρ h).bind fun x h1 => (evE C b ρ h1).bind fun y h2 => binT op x y h2
  | .neg a, ρ, h => (evE C a ρ h).bind fun x h1 => (match x with | .d (.int i) => .ok (.d (.int (-i))) h1 | _ => .err)
  | .not a, ρ, h => (evE C a ρ h).bind fun x h1 => (match truT x h1 with | some b => .ok (.d (.bl (!b))) h1 | none => .err)
  | .cmp op a b, ρ, h => (evE C a ρ h).bind fun x h1 => (evE C b ρ h1).bind fun y h2 => cmpR op x y h2
  | .chn o1 o2 a b c, ρ, h => (evE C a ρ h).bind fun x h1 => (evE C b ρ h1).bind fun y h2 => (cmpR o1 x y h2).bind fun r h3 =>
      (match r with
       | .d (.bl true) => (evE C c ρ h3).bind fun z h4 => cmpR o2 y z h4
       | r => .ok r h3)
  | .and a b, ρ, h => (evE C a ρ h).bind fun x h1 => (match truT x h1 with
      | some true => evE C b ρ h1
      | some false => .ok x h1
      | none => .err)
  | .or a b, ρ, h => (evE C a ρ h).bind fun x h1 => (match truT x h1 with
      | some true => .ok x h1
      | some false => evE C b ρ h1
      | none => .err)
  | .ife c a b, ρ, h => (evE C c ρ h).bind fun x h1 => (match truT x h1 with
      | some true => evE C a ρ h1
      | some false => evE C b ρ h1
      | none => .err)
  | .tup es, ρ, h => (evEs C es ρ h).bind fun ts h1 => if ts.length ≤ sizeLine then .ok (.d (.tup (namAll ts h1).1)) (namAll ts h1).2 else .err
  | .lst es, ρ, h => (evEs C es ρ h).bind fun ts h1 => if ts.length ≤ sizeLine then .ok (.l (namAll ts h1).1) (namAll ts h1).2 else .err
  | .ix a b, ρ, h => (evE C a ρ h).bind fun x h1 => (evE C b ρ h1).bind fun y h2 => ixT x y h2
  | .sl a lo hi, ρ, h => (evE C a ρ h).bind fun x h1 => (evO C lo ρ h1).bind fun l h2 => (evO C hi ρ h2).bind fun u h3 => slT x l u h3
  | .rev a, ρ, h => (evE C a ρ h).bind fun x h1 => revT x h1
  | .call f as, ρ, h => (evEs C as ρ h).bind fun ts h1 => C.call f ts h1
  | .bi f as, ρ, h => (evEs C as ρ h).bind fun ts h1 => biT f ts h1
  | .meth m o as, ρ, h => (evE C o ρ h).bind fun x h1 => if recvOk m x h1 then (evEs C as ρ h1).bind fun ts h2 => methT m x ts h2 else .err
  | .isin a ty, ρ, h => (evE C a ρ h).bind fun x h1 => (match isT x ty h1 with | some b => .ok (.d (.bl b)) h1 | none => .err)
  | .comp elt tg it c, ρ, h => (evI C it ρ h).bind fun s h1 => compL s (fun x h => (match setTg tg x ρ with
      | none => .err
      | some ρ' => (evC C c ρ' h).bind fun b h2 => if b then (evE C elt ρ' h2).bind fun t h3 => (named t h3).bind fun y h4 => .ok (some y) h4 else .ok none h2)) s.len 0 [] h1
  | .fmt a, ρ, h => (evE C a ρ h).bind fun x h1 => (match fmtT x with | some s => .ok (.d (.str s)) h1 | none => .err)
  | .fstr es, ρ, h => (evF C es Str.empty ρ h).bind fun s h1 => .ok (.d (.str s)) h1
  | .heard cs e, ρ, h => (match evE C e ρ h with
      | .ok t h1 => .ok (.d (.tup [.str "told", (nam t h1).1])) (nam t h1).2
      | .exc c w h1 => if c ∈ cs then .ok (.d (.tup [.str c, w])) h1 else .err
      | .err => .err)
def evEs (C : Cfg) : Es → Sl → AH → R (List Tm)
  | .nil, _, h => .ok [] h
  | .cons e es, ρ, h => (evE C e ρ h).bind fun t h1 => (evEs C es ρ h1).bind fun ts h2 => .ok (t :: ts) h2
def evF (C : Cfg) : Es → Str → Sl → AH → R Str
  | .nil, acc, _, h => .ok acc h
  | .cons e es, acc, ρ, h => (evE C e ρ h).bind fun t h1 => (match t with
      | .d (.str y) => if (acc ++ y).length ≤ sizeLine then evF C es (acc ++ y) ρ h1 else .err
      | _ => .err)
def evO (C : Cfg) : Op → Sl → AH → R (Option Int)
  | .no, _, h => .ok none h
  | .yes e, ρ, h => (evE C e ρ h).bind fun t h1 => (match optI t with | some i => .ok (some i) h1 | none => .err)
def evC (C : Cfg) : Op → Sl → AH → R Bool
  | .no, _, h => .ok true h
  | .yes e, ρ, h => (evE C e ρ h).bind fun t h1 => (match truT t h1 with | some b => .ok b h1 | none => .err)
def evI (C : Cfg) : It → Sl → AH → R Src
  | .seq e, ρ, h => (evE C e ρ h).bind fun t h1 => (match srcT t h1 with | some s => .ok s h1 | none => .err)
  | .rng1 a, ρ, h => (evE C a ρ h).bind fun t h1 => (match optI t with
      | some j => if -(2 ^ 62) ≤ j ∧ j < 2 ^ 62 then .ok ⟨j.toNat, fun _ i => some (.int (0 + (i : Nat))), fun _ => true⟩ h1 else .err
      | none => .err)
  | .rng2 a b, ρ, h => (evE C a ρ h).bind fun t h1 => (evE C b ρ h1).bind fun u h2 => (match optI t, optI u with
      | some i, some j => if -(2 ^ 62) ≤ i ∧ i < 2 ^ 62 ∧ -(2 ^ 62) ≤ j ∧ j < 2 ^ 62 then .ok ⟨(j - i).toNat, fun _ k => some (.int (i + (k : Nat))), fun _ => true⟩ h2 else .err
      | _, _ => .err)
  | .enum e, ρ, h => (evE C e ρ h).bind fun t h1 => (match t with
      | .d (.tup ds) => .ok (Src.fix ds).enum h1
      | _ => .err)
  | .zip3 a b c, ρ, h => (evE C a ρ h).bind fun t h1 => (evE C b ρ h1).bind fun u h2 => (evE C c ρ h2).bind fun v h3 => (match t, u, v with
      | .d (.tup xs), .d (.tup ys), .d (.tup zs) => if xs.length = ys.length ∧ ys.length = zs.length then
          .ok (Src.fix ((xs.zip (ys.zip zs)).map fun p => .tup [p.1, p.2.1, p.2.2])) h3 else .err
      | _, _, _ => .err)
end

inductive O where
  | nx (ρ : Sl) (h : AH) | rt (t : Tm) (h : AH) | bk (ρ : Sl) (h : AH) | ct (ρ : Sl) (h : AH) | exc (c : Str) (w : D) (h : AH) | err
  deriving Inhabited

def R.out {α : Type} (r : R α) (f : α → AH → O) : O := match r with
  | .ok a h => f a h
  | .exc c w h => .exc c w h
  | .err => .err
@[simp] theorem R.out_ok {α : Type} (a : α) (h : AH) (f : α → AH → O) : (R.ok a h).out f = f a h := rfl
@[simp] theorem R.out_exc {α : Type} (c : Str) (w : D) (h : AH) (f : α → AH → O) : (R.exc c w h : R α).out f = .exc c w h := rfl
@[simp] theorem R.out_err {α : Type} (f : α → AH → O) : (R.err : R α).out f = .err := rfl

/-- a for's loop -/
def forL (s : Src) (step : D → Sl → AH → O) : Nat → Nat → Sl → AH → O
  | 0, _, ρ, h => if s.fin h then .nx ρ h else .err
  | k + 1, i, ρ, h => (match s.get h i with
    | none => .err
    | some x => (match step x ρ h with
      | .nx ρ1 h1 => forL s step k (i + 1) ρ1 h1
      | .ct ρ1 h1 => forL s step k (i + 1) ρ1 h1
      | .bk ρ1 h1 => .nx ρ1 h1
      | o => o))
/-- a while's loop: at most so many turns -/
def whileL (test : Sl → AH → R Bool) (step : Sl → AH → O) : Nat → Sl → AH → O
  | 0, _, _ => .err
  | k + 1, ρ, h => (test ρ h).out fun b h1 => if b then (match step ρ h1 with
      | .nx ρ1 h2 => whileL test step k ρ1 h2
      | .ct ρ1 h2 => whileL test step k ρ1 h2
      | .bk ρ1 h2 => .nx ρ1 h2
      | o => o) else .nx ρ h1

def setIxT (o i : Tm) (x : Tm) (h : AH) : Option AH := match o, i with
  | .d (.ref n), .d (.int k) => (match h[n]? with
    | some (.lst ds) => (match L2.ixN ds.length k with
      | some j => some ((nam x h).2.set n (.lst (ds.set j (nam x h).1)))
      | none => none)
    | _ => none)
  | _, _ => none

mutual
def evS (C : Cfg) (wf : Nat) : S → Sl → AH → O
  | .ex e, ρ, h => (evE C e ρ h).out fun _ h1 => .nx ρ h1
  | .set t e, ρ, h => (evE C e ρ h).out fun x h1 => (match setTg t (nam x h1).1 ρ with | some ρ' => .nx ρ' (nam x h1).2 | none => .err)
  | .par i j a b, ρ, h => (evE C a ρ h).out fun x h1 => (evE C b ρ h1).out fun y h2 => .nx ((ρ.set i (some (nam x h2).1)).set j (some (nam y (nam x h2).2).1)) (nam y (nam x h2).2).2
  | .setIx o i e, ρ, h => (evE C e ρ h).out fun x h1 => (evE C o ρ h1).out fun p h2 => (evE C i ρ h2).out fun k h3 => (match setIxT p k x h3 with | some h4 => .nx ρ h4 | none => .err)
  | .ret e, ρ, h => (evE C e ρ h).out fun x h1 => .rt x h1
  | .retN, _, h => .rt (.d .non) h
  | .ite c a b, ρ, h => (evE C c ρ h).out fun x h1 => (match truT x h1 with
      | some true => evSs C wf a ρ h1
      | some false => evSs C wf b ρ h1
      | none => .err)
  | .for_ t it b, ρ, h => (evI C it ρ h).out fun s h1 => forL s (fun x ρ h => (match setTg t x ρ with | some ρ' => evSs C wf b ρ' h | none => .err)) s.len 0 ρ h1
  | .while_ c b, ρ, h => whileL (fun ρ h => (evE C c ρ h).bind fun x h1 => (match truT x h1 with | some b => .ok b h1 | none => .err)) (fun ρ h => evSs C wf b ρ h) wf ρ h
  | .raise c e, ρ, h => (evE C e ρ h).out fun x h1 => .exc c (nam x h1).1 (nam x h1).2
  | .brk, ρ, h => .bk ρ h
  | .cnt, ρ, h => .ct ρ h
  | .pass, ρ, h => .nx ρ h
  | .clr i, ρ, h => .nx (ρ.set i none) h
def evSs (C : Cfg) (wf : Nat) : Ss → Sl → AH → O
  | .nil, ρ, h => .nx ρ h
  | .cons s ss, ρ, h => (match evS C wf s ρ h with
      | .nx ρ1 h1 => evSs C wf ss ρ1 h1
      | o => o)
end

/-! ### defs -/
structure Fn where
  /-- parameters -/
  ps : Nat
  /-- all names -/
  n : Nat
  body : Ss

mutual
def below (n : Nat) : D → Bool
  | .ref k => decide (k < n)
  | .tup ds => belows n ds
  | .fro ds => belows n ds
  | _ => true
def belows (n : Nat) : List D → Bool
  | [] => true
  | d :: ds => below n d && belows n ds
end
def belowC (n : Nat) : Cell → Bool
  | .lst ds => belows n ds
/-- what a call leaves: the cells made within are let go where nothing holds them -/
def leave (n : Nat) (t : Tm) (h : AH) : R Tm :=
  if (h.take n).all (belowC n) then (match t with
    | .d (.ref k) => if k < n then .ok t (h.take n) else (match h[k]? with
      | some (.lst ds) => if belows n ds then .ok (.l ds) (h.take n) else .ok t h
      | none => .ok t h)
    | .d x => if below n x then .ok t (h.take n) else .ok t h
    | .l ds => if belows n ds then .ok t (h.take n) else .ok t h)
  else .ok t h
def leaveX (n : Nat) (c : Str) (w : D) (h : AH) : R Tm :=
  if (h.take n).all (belowC n) && below n w then .exc c w (h.take n) else .exc c w h
def finish (n : Nat) : O → R Tm
  | .nx _ h => leave n (.d .non) h
  | .rt t h => leave n t h
  | .exc c w h => leaveX n c w h
  | _ => .err
structure Prog where
  fn : Str → Option Fn
  glob : Str → Option D
def runFn (C : Cfg) (wf : Nat) (f : Fn) (ts : List Tm) (h : AH) : R Tm :=
  if ts.length = f.ps then finish h.length (evSs C wf f.body ((namAll ts h).1.map some ++ List.replicate (f.n - f.ps) none) (namAll ts h).2) else .err
def callF (Pg : Prog) (wf : Nat) : Nat → Str → List Tm → AH → R Tm
  | 0, _, _, _ => .err
  | k + 1, f, ts, h => (match Pg.fn f with
    | some fn => runFn ⟨callF Pg wf k, Pg.glob⟩ wf fn ts h
    | none => .err)
abbrev cfg (Pg : Prog) (wf k : Nat) : Cfg := ⟨callF Pg wf k, Pg.glob⟩
end Mill

set_option Elab.async false
set_option linter.all false
set_option maxRecDepth 100000
set_option maxHeartbeats 4000000
/-! Mill2: how the values of Mill1 stand in the layer's heap. -/
namespace Mill
open PySem PySem.Spec PyProof.Rows L2

/-- a list that is read alone -/
def SqF (K : PySem.W.Frag) (H : Hp) (a : Addr) (xs : List V) : Prop :=
  (∃ o, H a = some (.frz o (.lst xs))) ∨
    ∃ (o : Obj) (its : Array Value) (n : Nat), K.lookup a = some o ∧ o.cls = .type "list" ∧ o.dict = none ∧ o.data = .seq its n ∧ its.size ≤ sizeLine ∧ Vals xs its.toList
theorem SqF.l {K : PySem.W.Frag} {H : Hp} {a : Addr} {xs : List V} (h : SqF K H a xs) : SqL K H a xs := by
  rcases h with h | h
  · exact .inl (.inr h)
  · exact .inr h

mutual
inductive Rep (K : PySem.W.Frag) (m : List Addr) (H : Hp) : D → V → Prop
  | non : Rep K m H .non .non
  | bl (b : Bool) : Rep K m H (.bl b) (.bl b)
  | int (i : Int) : Rep K m H (.int i) (.int i)
  | str (x : Str) : Rep K m H (.str x) (.str x)
  | tup {a : Addr} {vs : List V} {ds : List D} : SqT K H a vs → Reps K m H ds vs → Rep K m H (.tup ds) (.ref a)
  | ref {n : Nat} {a : Addr} : m[n]? = some a → Rep K m H (.ref n) (.ref a)
  | fro {a : Addr} {vs : List V} {ds : List D} : SqF K H a vs → Reps K m H ds vs → Rep K m H (.fro ds) (.ref a)
inductive Reps (K : PySem.W.Frag) (m : List Addr) (H : Hp) : List D → List V → Prop
  | nil : Reps K m H [] []
  | cons {d : D} {v : V} {ds : List D} {vs : List V} : Rep K m H d v → Reps K m H ds vs → Reps K m H (d :: ds) (v :: vs)
end

def ImmO : HO → Prop
  | .tup _ => True
  | .frz _ _ => True
  | _ => False

/-- what a step of the evaluation leaves of the heap: F: lists in passing that it was handed -/
structure Ext (F m : List Addr) (H : Hp) (m' : List Addr) (H' : Hp) : Prop where
  pre : ∃ ns, m' = m ++ ns ∧ ∀ a ∈ ns, H a = none ∨ a ∈ F
  keep : ∀ a o, H a = some o → a ∉ m → a ∉ F → (∀ ps, o ≠ .tbl ps) → H' a = some o
  imm : ∀ a o, H a = some o → ImmO o → H' a = some o
  dom : ∀ a, H' a = none → H a = none

structure RelH (K : PySem.W.Frag) (T : List (Addr × Str)) (m : List Addr) (H : Hp) (h : AH) : Prop where
  len : m.length = h.length
  nd : m.Nodup
  cell : ∀ (n : Nat) (a : Addr) (ds : List D), m[n]? = some a → h[n]? = some (Cell.lst ds) → ∃ vs, H a = some (.lst vs) ∧ Reps K m H ds vs
  tab : LamX.Tabs T H

def RelS (K : PySem.W.Frag) (m : List Addr) (H : Hp) (ρ : Sl) (σ : L2.St) : Prop :=
  ρ.length = σ.length ∧ ∀ (i : Nat) (d : D), ρ[i]? = some (some d) → ∃ v, σ[i]? = some (some v) ∧ Rep K m H d v

/-- a value in passing; F: where its list stands -/
def RepT (K : PySem.W.Frag) (m : List Addr) (H : Hp) (t : Tm) (v : V) (F : List Addr) : Prop := match t with
  | .d x => Rep K m H x v ∧ F = []
  | .l ds => ∃ a vs, v = .ref a ∧ H a = some (.lst vs) ∧ Reps K m H ds vs ∧ a ∉ m ∧ F = [a]
inductive RepTs (K : PySem.W.Frag) (m : List Addr) (H : Hp) : List Tm → List V → List Addr → Prop
  | nil : RepTs K m H [] [] []
  | cons {t : Tm} {v : V} {F : List Addr} {ts : List Tm} {vs : List V} {G : List Addr} : RepT K m H t v F → RepTs K m H ts vs G → (∀ a ∈ F, a ∉ G) → RepTs K m H (t :: ts) (v :: vs) (F ++ G)

section
variable {K : PySem.W.Frag} {T : List (Addr × Str)} {m m' m1 m2 F F1 : List Addr} {H H' H1 H2 : Hp} {h h' : AH}

theorem SqT.imm {a : Addr} {vs : List V} (i : ∀ a o, H a = some o → ImmO o → H' a = some o) (q : SqT K H a vs) : SqT K H' a vs := by
  rcases q with (q | ⟨o, q⟩) | q
  · exact .inl (.inl (i _ _ q True.intro))
  · exact .inl (.inr ⟨o, i _ _ q True.intro⟩)
  · exact .inr q
theorem SqF.imm {a : Addr} {vs : List V} (i : ∀ a o, H a = some o → ImmO o → H' a = some o) (q : SqF K H a vs) : SqF K H' a vs := by
  rcases q with ⟨o, q⟩ | q
  · exact .inl ⟨o, i _ _ q True.intro⟩
  · exact .inr q
mutual
theorem Rep.mono (i : ∀ a o, H a = some o → ImmO o → H' a = some o) (p : ∀ (n : Nat) (a : Addr), m[n]? = some a → m'[n]? = some a) : ∀ {d : D} {v : V}, Rep K m H d v → Rep K m' H' d v
  | _, _, .non => .non
  | _, _, .bl b => .bl b
  | _, _, .int b => .int b
  | _, _, .str b => .str b
  | _, _, .tup q r => .tup (SqT.imm i q) (Reps.mono i p r)
  | _, _, .ref q => .ref (p _ _ q)
  | _, _, .fro q r => .fro (SqF.imm i q) (Reps.mono i p r)
theorem Reps.mono (i : ∀ a o, H a = some o → ImmO o → H' a = some o) (p : ∀ (n : Nat) (a : Addr), m[n]? = some a → m'[n]? = some a) : ∀ {ds : List D} {vs : List V}, Reps K m H ds vs → Reps K m' H' ds vs
  | _, _, .nil => .nil
  | _, _, .cons q r => .cons (Rep.mono i p q) (Reps.mono i p r)
end
theorem Ext.ix (x : Ext F m H m' H') : ∀ (n : Nat) (a : Addr), m[n]? = some a → m'[n]? = some a := fun n a e => by
  obtain ⟨ns, rfl, _⟩ := x.pre
  have hn : n < m.length := (List.getElem?_eq_some_iff.mp e).1
  rw [List.getElem?_append_left hn]; exact e
theorem Ext.rep (x : Ext F m H m' H') {d : D} {v : V} (r : Rep K m H d v) : Rep K m' H' d v := r.mono x.imm x.ix
theorem Ext.reps (x : Ext F m H m' H') {d : List D} {v : List V} (r : Reps K m H d v) : Reps K m' H' d v := r.mono x.imm x.ix
theorem Ext.rels (x : Ext F m H m' H') {ρ : Sl} {σ : L2.St} (r : RelS K m H ρ σ) : RelS K m' H' ρ σ := ⟨r.1, fun i d e => by
  obtain ⟨v, e1, q⟩ := r.2 i d e
  exact ⟨v, e1, x.rep q⟩⟩
theorem Ext.refl : Ext F m H m H := ⟨⟨[], by simp, fun _ h => absurd h (by simp)⟩, fun _ _ e _ _ _ => e, fun _ _ e _ => e, fun _ e => e⟩
theorem Ext.trans (x : Ext F m H m1 H1) (y : Ext F1 m1 H1 m2 H2) (hf : ∀ a ∈ F1, H a = none ∨ a ∈ F) : Ext F m H m2 H2 := by
  obtain ⟨ns, e1, n1⟩ := x.pre
  obtain ⟨ns2, e2, n2⟩ := y.pre
  refine ⟨⟨ns ++ ns2, by rw [e2, e1, List.append_assoc], fun a ha => ?_⟩, fun a o e hm hF ht => ?_, fun a o e i => y.imm a o (x.imm a o e i) i, fun a e => x.dom a (y.dom a e)⟩
  · rcases List.mem_append.mp ha with ha | ha
    · exact n1 a ha
    · rcases n2 a ha with q | q
      · exact .inl (x.dom a q)
      · exact hf a q
  · have h1 := x.keep a o e hm hF ht
    have nx : ∀ a ∈ F1, H a = none ∨ a ∈ F := hf
    refine y.keep a o h1 (fun z => ?_) (fun z => ?_) ht
    · rw [e1] at z
      rcases List.mem_append.mp z with z | z
      · exact hm z
      · rcases n1 a z with q | q
        · rw [e] at q; cases q
        · exact hF q
    · rcases hf a z with q | q
      · rw [e] at q; cases q
      · exact hF q
theorem Ext.trans0 (x : Ext F m H m1 H1) (y : Ext [] m1 H1 m2 H2) : Ext F m H m2 H2 := x.trans y fun _ h => absurd h (by simp)
theorem RelH.isLst (r : RelH K T m H h) {a : Addr} (ha : a ∈ m) : ∃ vs, H a = some (.lst vs) := by
  obtain ⟨n, hn⟩ := List.mem_iff_getElem?.mp ha
  have hl : n < h.length := by rw [← r.len]; exact (List.getElem?_eq_some_iff.mp hn).1
  have e : h[n]? = some h[n] := by simp [hl]
  cases c : h[n] with
  | lst ds =>
    rw [c] at e
    obtain ⟨vs, q, _⟩ := r.cell n a ds hn e
    exact ⟨vs, q⟩
/-- a list in passing of a later heap is not of the cells then -/
theorem Ext.notin (x : Ext F m H m' H') {a : Addr} {o : HO} (e : H a = some o) (hm : a ∉ m) (hF : a ∉ F) : a ∉ m' := fun z => by
  obtain ⟨ns, e1, n1⟩ := x.pre
  rw [e1] at z
  rcases List.mem_append.mp z with z | z
  · exact hm z
  · rcases n1 a z with q | q
    · rw [e] at q; cases q
    · exact hF q
/-- a list in passing stays through another evaluation -/
theorem RepT.ext (x : Ext [] m H m' H') {t : Tm} {v : V} {G : List Addr} (r : RepT K m H t v G) : RepT K m' H' t v G := by
  cases t with
  | d y => exact ⟨x.rep r.1, r.2⟩
  | l ds =>
    obtain ⟨a, vs, e1, e2, e3, e4, e5⟩ := r
    exact ⟨a, vs, e1, x.keep _ _ e2 e4 (by simp) (fun ps z => by cases z), x.reps e3, x.notin e2 e4 (by simp), e5⟩
theorem RepT.free (x : Ext F m H m' H') {t : Tm} {v : V} {G : List Addr} (r : RepT K m H t v G) : ∀ a ∈ G, H a ≠ none := fun a ha => by
  cases t with
  | d y => rw [r.2] at ha; simp at ha
  | l ds =>
    obtain ⟨b, vs, e1, e2, e3, e4, e5⟩ := r
    rw [e5] at ha
    have : a = b := by simpa using ha
    subst this
    rw [e2]; simp
theorem RepTs.ext (x : Ext [] m H m' H') {ts : List Tm} {vs : List V} {G : List Addr} (r : RepTs K m H ts vs G) : RepTs K m' H' ts vs G := by
  induction r with
  | nil => exact .nil
  | cons a b c ih => exact .cons (a.ext x) ih c
theorem Tabs.new {p : Addr} {o : HO} (t : LamX.Tabs T H) (hp : H p = none) : LamX.Tabs T (upd H p o) := t.ext fun b u e => by rw [upd_ne (ne_of_none e hp)]; exact e
theorem Tabs.lst {a : Addr} {vs ws : List V} (t : LamX.Tabs T H) (ha : H a = some (.lst vs)) : LamX.Tabs T (upd H a (.lst ws)) := fun p hp => by
  obtain ⟨ps, h1, h2, h3⟩ := t p hp
  refine ⟨ps, by rw [upd_ne (ne_of h1 ha (by intro z; cases z))]; exact h1, h2, fun pos cv hc => ?_⟩
  obtain ⟨c, e1, e2⟩ := h3 pos cv hc
  refine ⟨c, e1, ?_⟩
  rw [upd_ne (ne_of e2 ha (by intro z; unfold LamX.CodeO at z; cases z))]
  exact e2
/-- a new object -/
theorem RelH.new {p : Addr} {o : HO} (r : RelH K T m H h) (hp : H p = none) : RelH K T m (upd H p o) h := by
  have i : ∀ a o', H a = some o' → ImmO o' → (upd H p o) a = some o' := fun a o' e _ => by rw [upd_ne (ne_of_none e hp)]; exact e
  refine ⟨r.len, r.nd, fun n a ds e1 e2 => ?_, Tabs.new r.tab hp⟩
  obtain ⟨vs, q1, q2⟩ := r.cell n a ds e1 e2
  exact ⟨vs, by rw [upd_ne (ne_of_none q1 hp)]; exact q1, q2.mono i fun _ _ e => e⟩
theorem Ext.new {p : Addr} {o : HO} (hp : H p = none) : Ext F m H m (upd H p o) :=
  ⟨⟨[], by simp, fun _ h => absurd h (by simp)⟩, fun a u e _ _ _ => by rw [upd_ne (ne_of_none e hp)]; exact e, fun a u e _ => by rw [upd_ne (ne_of_none e hp)]; exact e, fun a e => by
    by_cases hb : a = p
    · rw [hb]; exact hp
    · rw [upd_ne hb] at e; exact e⟩
/-- a list in passing is given a name -/
theorem RelH.name {a : Addr} {vs : List V} {ds : List D} (r : RelH K T m H h) (ha : H a = some (.lst vs)) (hr : Reps K m H ds vs) (hm : a ∉ m) : RelH K T (m ++ [a]) H (h ++ [.lst ds]) := by
  have p : ∀ (n : Nat) (b : Addr), m[n]? = some b → (m ++ [a])[n]? = some b := fun n b e => by
    rw [List.getElem?_append_left (List.getElem?_eq_some_iff.mp e).1]; exact e
  refine ⟨by simp [r.len], List.nodup_append.mpr ⟨r.nd, by simp, fun x hx y hy => by
    have : y = a := by simpa using hy
    subst this
    intro z; subst z; exact hm hx⟩, fun n b es e1 e2 => ?_, r.tab⟩
  by_cases hn : n < m.length
  · rw [List.getElem?_append_left hn] at e1
    rw [List.getElem?_append_left (by rw [← r.len]; exact hn)] at e2
    obtain ⟨ws, q1, q2⟩ := r.cell n b es e1 e2
    exact ⟨ws, q1, q2.mono (fun _ _ e _ => e) p⟩
  · rw [List.getElem?_append_right (by omega)] at e1
    rw [List.getElem?_append_right (by rw [← r.len]; omega), ← r.len] at e2
    cases hz : n - m.length with
    | zero =>
      rw [hz] at e1 e2
      simp at e1 e2
      subst e1; subst e2
      exact ⟨vs, ha, hr.mono (fun _ _ e _ => e) p⟩
    | succ k =>
      rw [hz] at e1
      simp at e1
theorem nodup_ix {l : List Addr} (hN : l.Nodup) {i j : Nat} {x : Addr} (a : l[i]? = some x) (b : l[j]? = some x) : i = j := by
  obtain ⟨h1, e1⟩ := List.getElem?_eq_some_iff.mp a
  obtain ⟨h2, e2⟩ := List.getElem?_eq_some_iff.mp b
  exact (List.getElem_inj hN).mp (e1.trans e2.symm)
/-- a cell is written -/
theorem RelH.write {n : Nat} {a : Addr} {vs ws : List V} {es : List D} (r : RelH K T m H h) (hn : m[n]? = some a) (ha : H a = some (.lst vs)) (hr : Reps K m H es ws) : RelH K T m (upd H a (.lst ws)) (h.set n (.lst es)) := by
  have i : ∀ b o', H b = some o' → ImmO o' → (upd H a (.lst ws)) b = some o' := fun b o' e io => by
    rw [upd_ne (ne_of e ha (by intro z; subst z; exact io))]; exact e
  refine ⟨by simp [r.len], r.nd, fun k b fs e1 e2 => ?_, Tabs.lst r.tab ha⟩
  by_cases hk : k = n
  · subst hk
    rw [hn] at e1; cases e1
    have hl : k < h.length := by rw [← r.len]; exact (List.getElem?_eq_some_iff.mp hn).1
    rw [List.getElem?_set_self hl] at e2
    cases e2
    exact ⟨ws, upd_same, hr.mono i fun _ _ e => e⟩
  · rw [List.getElem?_set_ne (Ne.symm hk)] at e2
    obtain ⟨us, q1, q2⟩ := r.cell k b fs e1 e2
    have hb : b ≠ a := fun z => by subst z; exact hk (nodup_ix r.nd e1 hn)
    exact ⟨us, by rw [upd_ne hb]; exact q1, q2.mono i fun _ _ e => e⟩
theorem Ext.write {a : Addr} {vs ws : List V} (hm : a ∈ m) (ha : H a = some (.lst vs)) : Ext F m H m (upd H a (.lst ws)) :=
  ⟨⟨[], by simp, fun _ h => absurd h (by simp)⟩, fun b u e hb _ _ => by rw [upd_ne (fun z : b = a => hb (by rw [z]; exact hm))]; exact e, fun b u e i => by
    rw [upd_ne (ne_of e ha (by intro z; subst z; exact i))]; exact e, fun b e => by
    by_cases hb : b = a
    · rw [hb, upd_same] at e; cases e
    · rw [upd_ne hb] at e; exact e⟩
theorem Reps.length {ds : List D} {vs : List V} (r : Reps K m H ds vs) : ds.length = vs.length := by
  induction ds generalizing vs with
  | nil => cases r; rfl
  | cons d ds ih => cases r with | cons a b => simp [ih b]
theorem Reps.get {ds : List D} {vs : List V} (r : Reps K m H ds vs) {i : Nat} {d : D} (e : ds[i]? = some d) : ∃ v, vs[i]? = some v ∧ Rep K m H d v := by
  induction ds generalizing vs i with
  | nil => simp at e
  | cons x ds ih =>
    cases r with
    | cons a b =>
      cases i with
      | zero => simp at e; subst e; exact ⟨_, rfl, a⟩
      | succ i => simp at e; obtain ⟨v, h1, h2⟩ := ih b e; exact ⟨v, by simpa using h1, h2⟩
theorem Reps.append {ds es : List D} {vs ws : List V} (r : Reps K m H ds vs) (s : Reps K m H es ws) : Reps K m H (ds ++ es) (vs ++ ws) := by
  induction ds generalizing vs with
  | nil => cases r; exact s
  | cons d ds ih => cases r with | cons a b => exact .cons a (ih b)
theorem Reps.set {ds : List D} {vs : List V} (r : Reps K m H ds vs) (i : Nat) {d : D} {v : V} (q : Rep K m H d v) : Reps K m H (ds.set i d) (vs.set i v) := by
  induction ds generalizing vs i with
  | nil => cases r; exact .nil
  | cons x ds ih =>
    cases r with
    | cons a b =>
      cases i with
      | zero => exact .cons q b
      | succ i => exact .cons a (ih b i)
theorem Reps.drop {ds : List D} {vs : List V} (r : Reps K m H ds vs) (n : Nat) : Reps K m H (ds.drop n) (vs.drop n) := by
  induction n generalizing ds vs with
  | zero => exact r
  | succ n ih => cases r with
    | nil => exact .nil
    | cons a b => exact ih b
theorem Reps.take {ds : List D} {vs : List V} (r : Reps K m H ds vs) (n : Nat) : Reps K m H (ds.take n) (vs.take n) := by
  induction n generalizing ds vs with
  | zero => simp; exact .nil
  | succ n ih => cases r with
    | nil => exact .nil
    | cons a b => exact .cons a (ih b)
theorem Reps.reverse {ds : List D} {vs : List V} (r : Reps K m H ds vs) : Reps K m H ds.reverse vs.reverse := by
  induction ds generalizing vs with
  | nil => cases r; exact .nil
  | cons d ds ih => cases r with | cons a b => rw [List.reverse_cons, List.reverse_cons]; exact (ih b).append (.cons a .nil)
theorem Reps.rep {ds : List D} {vs : List V} (r : Reps K m H ds vs) (k : Nat) : Reps K m H (List.replicate k ds).flatten (List.replicate k vs).flatten := by
  induction k with
  | zero => exact .nil
  | succ k ih => rw [List.replicate_succ, List.replicate_succ, List.flatten_cons, List.flatten_cons]; exact r.append ih
theorem Reps.strs {ds : List D} {vs : List V} {ys : List Str} (r : Reps K m H ds vs) (e : strs? ds = some ys) : vs = ys.map V.str := by
  induction ds generalizing vs ys with
  | nil => cases r; simp [strs?] at e; subst e; rfl
  | cons d ds ih =>
    cases r with
    | cons a b =>
      cases d with
      | str x =>
        cases a
        simp only [strs?, Option.map_eq_some_iff] at e
        obtain ⟨zs, e1, rfl⟩ := e
        rw [ih b e1]; rfl
      | _ => simp [strs?] at e
theorem Reps.bls {ds : List D} {vs : List V} {ys : List Bool} (r : Reps K m H ds vs) (e : bls? ds = some ys) : vs = ys.map V.bl := by
  induction ds generalizing vs ys with
  | nil => cases r; simp [bls?] at e; subst e; rfl
  | cons d ds ih =>
    cases r with
    | cons a b =>
      cases d with
      | bl x =>
        cases a
        simp only [bls?, Option.map_eq_some_iff] at e
        obtain ⟨zs, e1, rfl⟩ := e
        rw [ih b e1]; rfl
      | _ => simp [bls?] at e
/-- the list's contents -/
theorem RepT.viewM {t : Tm} {v : V} {G : List Addr} {ds : List D} (r : RelH K T m H h) (q : RepT K m H t v G) (e : viewM t h = some ds) : ∃ a vs, v = .ref a ∧ H a = some (.lst vs) ∧ Reps K m H ds vs := by
  cases t with
  | l es =>
    obtain ⟨a, vs, e1, e2, e3, _, _⟩ := q
    have : es = ds := Option.some.inj e
    subst this
    exact ⟨a, vs, e1, e2, e3⟩
  | d x =>
    cases x with
    | ref n =>
      obtain ⟨q, _⟩ := q
      cases q with
      | @ref _ a hn =>
        have e' : (match h[n]? with | some (Cell.lst ds) => some ds | _ => none) = some ds := e
        cases hc : h[n]? with
        | none => rw [hc] at e'; cases e'
        | some c =>
          cases c with
          | lst fs =>
            rw [hc] at e'
            have : fs = ds := Option.some.inj e'
            subst this
            obtain ⟨vs, q1, q2⟩ := r.cell n a fs hn hc
            exact ⟨a, vs, rfl, q1, q2⟩
    | _ => exact absurd e (by simp [Mill.viewM])
theorem RepT.viewL {t : Tm} {v : V} {G : List Addr} {ds : List D} (r : RelH K T m H h) (q : RepT K m H t v G) (e : viewL t h = some ds) : ∃ a vs, v = .ref a ∧ SqL K H a vs ∧ Reps K m H ds vs := by
  have go : Mill.viewM t h = some ds → ∃ a vs, v = .ref a ∧ SqL K H a vs ∧ Reps K m H ds vs := fun e => by
    obtain ⟨a, vs, h1, h2, h3⟩ := q.viewM r e
    exact ⟨a, vs, h1, SqL.of h2, h3⟩
  cases t with
  | l es => exact go e
  | d x =>
    cases x with
    | fro fs =>
      have : fs = ds := Option.some.inj e
      subst this
      obtain ⟨q, _⟩ := q
      cases q with
      | fro q1 q2 => exact ⟨_, _, rfl, q1.l, q2⟩
    | ref n => exact go e
    | _ => exact absurd e (by simp [Mill.viewL, Mill.viewM])
theorem RepT.viewS {t : Tm} {v : V} {G : List Addr} {ds : List D} (r : RelH K T m H h) (q : RepT K m H t v G) (e : viewS t h = some ds) : ∃ a vs, v = .ref a ∧ (SqL K H a vs ∨ SqT K H a vs) ∧ Reps K m H ds vs := by
  have go : Mill.viewL t h = some ds → ∃ a vs, v = .ref a ∧ (SqL K H a vs ∨ SqT K H a vs) ∧ Reps K m H ds vs := fun e => by
    obtain ⟨a, vs, h1, h2, h3⟩ := q.viewL r e
    exact ⟨a, vs, h1, .inl h2, h3⟩
  cases t with
  | l es => exact go e
  | d x =>
    cases x with
    | tup fs =>
      have : fs = ds := Option.some.inj e
      subst this
      obtain ⟨q, _⟩ := q
      cases q with
      | tup q1 q2 => exact ⟨_, _, rfl, .inr q1, q2⟩
    | fro fs => exact go e
    | ref n => exact go e
    | _ => exact absurd e (by simp [Mill.viewS, Mill.viewL, Mill.viewM])
theorem RepT.tup {ds : List D} {v : V} {G : List Addr} (q : RepT K m H (.d (.tup ds)) v G) : ∃ a vs, v = .ref a ∧ SqT K H a vs ∧ Reps K m H ds vs := by
  obtain ⟨q, _⟩ := q
  cases q with
  | tup q1 q2 => exact ⟨_, _, rfl, q1, q2⟩
theorem RepT.int {i : Int} {v : V} {G : List Addr} (q : RepT K m H (.d (.int i)) v G) : v = .int i := by
  obtain ⟨q, _⟩ := q
  cases q; rfl
theorem RepT.str {i : Str} {v : V} {G : List Addr} (q : RepT K m H (.d (.str i)) v G) : v = .str i := by
  obtain ⟨q, _⟩ := q
  cases q; rfl
theorem RepT.bl {i : Bool} {v : V} {G : List Addr} (q : RepT K m H (.d (.bl i)) v G) : v = .bl i := by
  obtain ⟨q, _⟩ := q
  cases q; rfl
theorem RepT.non {v : V} {G : List Addr} (q : RepT K m H (.d .non) v G) : v = .non := by
  obtain ⟨q, _⟩ := q
  cases q; rfl
theorem RepT.of {x : D} {v : V} (q : Rep K m H x v) : RepT K m H (.d x) v [] := ⟨q, rfl⟩
/-- a value in passing is given a name -/
theorem RepT.name {t : Tm} {v : V} {G : List Addr} (r : RelH K T m H h) (q : RepT K m H t v G) : RelH K T (m ++ G) H (nam t h).2 ∧ Rep K (m ++ G) H (nam t h).1 v ∧ Ext G m H (m ++ G) H := by
  have x : Ext G m H (m ++ G) H := ⟨⟨G, rfl, fun a ha => .inr ha⟩, fun _ _ e _ _ _ => e, fun _ _ e _ => e, fun _ e => e⟩
  cases t with
  | d y =>
    obtain ⟨q, rfl⟩ := q
    simp only [List.append_nil] at x ⊢
    exact ⟨r, q, x⟩
  | l ds =>
    obtain ⟨a, vs, rfl, e2, e3, e4, rfl⟩ := q
    refine ⟨r.name e2 e3 e4, .ref ?_, x⟩
    rw [← r.len]; simp
theorem RepTs.name {ts : List Tm} {vs : List V} {G : List Addr} (q : RepTs K m H ts vs G) : ∀ {h : AH}, RelH K T m H h → RelH K T (m ++ G) H (namAll ts h).2 ∧ Reps K (m ++ G) H (namAll ts h).1 vs ∧ Ext G m H (m ++ G) H := by
  have x : ∀ G, Ext G m H (m ++ G) H := fun G => ⟨⟨G, rfl, fun a ha => .inr ha⟩, fun _ _ e _ _ _ => e, fun _ _ e _ => e, fun _ e => e⟩
  suffices ∀ (m0 : List Addr) {h : AH}, RelH K T (m ++ m0) H h → (∀ a ∈ m0, a ∉ G) → RelH K T ((m ++ m0) ++ G) H (namAll ts h).2 ∧ Reps K ((m ++ m0) ++ G) H (namAll ts h).1 vs by
    intro h r
    have z := this [] (h := h) (by simpa using r) (by simp)
    simp only [List.append_nil] at z
    exact ⟨z.1, z.2, x G⟩
  induction q with
  | nil => intro m0 h r _; simp only [List.append_nil]; exact ⟨r, .nil⟩
  | @cons t v F ts vs G a b c ih =>
    intro m0 h r hn
    -- the first one, over the cells so far
    have a' : RepT K (m ++ m0) H t v F := by
      cases t with
      | d y => exact ⟨a.1.mono (fun _ _ e _ => e) (fun n b e => by rw [List.getElem?_append_left (List.getElem?_eq_some_iff.mp e).1]; exact e), a.2⟩
      | l ds =>
        obtain ⟨p, ws, e1, e2, e3, e4, e5⟩ := a
        refine ⟨p, ws, e1, e2, e3.mono (fun _ _ e _ => e) (fun n b e => by rw [List.getElem?_append_left (List.getElem?_eq_some_iff.mp e).1]; exact e), fun z => ?_, e5⟩
        rcases List.mem_append.mp z with z | z
        · exact e4 z
        · exact hn p z (by rw [e5]; simp)
    obtain ⟨r1, q1, x1⟩ := a'.name r
    have r1' : RelH K T (m ++ (m0 ++ F)) H (nam t h).2 := by rw [← List.append_assoc]; exact r1
    obtain ⟨r2, q2⟩ := ih (m0 ++ F) r1' fun p hp hg => by
      rcases List.mem_append.mp hp with z | z
      · exact hn p z (List.mem_append_right _ hg)
      · exact c p z hg
    have em : m ++ (m0 ++ F) ++ G = m ++ m0 ++ (F ++ G) := by simp [List.append_assoc]
    rw [em] at r2 q2
    refine ⟨r2, .cons (q1.mono (fun _ _ e _ => e) fun n b e => ?_) q2⟩
    have e2 : m ++ m0 ++ (F ++ G) = (m ++ m0 ++ F) ++ G := by simp [List.append_assoc]
    rw [e2, List.getElem?_append_left (List.getElem?_eq_some_iff.mp e).1]; exact e
theorem namAll_length (ts : List Tm) : ∀ h : AH, (namAll ts h).1.length = ts.length := by
  induction ts with
  | nil => intro h; rfl
  | cons t ts ih => intro h; simp [namAll, ih]
theorem RepTs.length {ts : List Tm} {vs : List V} {G : List Addr} (q : RepTs K m H ts vs G) : ts.length = vs.length := by
  induction q with
  | nil => rfl
  | cons a b c ih => simp [ih]
end
end Mill

set_option Elab.async false
set_option linter.all false
set_option maxRecDepth 100000
set_option maxHeartbeats 4000000
/-! Mill3: from the program's text to the small language. -/
namespace Mill
open PySem

def slotOf (N : List Str) (x : Str) : Option Nat := if N[N.findIdx (· == x)]? = some x then some (N.findIdx (· == x)) else none
def bltNames : List Str := ["int", "len", "max", "min", "tuple", "list", "str", "all", "any"]
def iterNames : List Str := ["range", "enumerate", "zip"]
def tyNames : List Str := ["int", "bool", "str", "tuple", "list"]

def ofEs (f : Expr → Option E) : List Expr → Option Es
  | [] => some .nil
  | e :: es => match f e, ofEs f es with
    | some a, some as => some (.cons a as)
    | _, _ => none
def ofO (f : Expr → Option E) : Option Expr → Option Op
  | none => some .no
  | some e => (f e).map .yes
def ofBool (f : Expr → Option E) (mk : E → E → E) : List Expr → Option E
  | [] => none
  | [a] => f a
  | a :: rest => match f a, ofBool f mk rest with
    | some x, some y => some (mk x y)
    | _, _ => none
def slotIs (N : List Str) (sc : Scope) (x : Str) : Option Nat := match sc.names.lookup x with
  | some .local => slotOf N x
  | some .cell => slotOf N x
  | _ => none
def ofNames (N : List Str) (sc : Scope) : List Expr → Option (List Nat)
  | [] => some []
  | .Name x _ :: es => match slotIs N sc x, ofNames N sc es with
    | some i, some is => some (i :: is)
    | _, _ => none
  | _ => none
def ofTg (N : List Str) (sc : Scope) : Expr → Option Tg
  | .Name x _ => (slotIs N sc x).map .nm
  | .Tuple es _ _ => (ofNames N sc es).map .tp
  | _ => none
def Tg.slots : Tg → List Nat
  | .nm i => [i]
  | .tp is => is
/-- the block's own names, with their slots -/
def ownOf (N : List Str) (scope : Scope) : List (Str × Nat) := scope.names.filterMap fun p => match p.2 with
  | .local => (slotOf N p.1).map fun i => (p.1, i)
  | .cell => (slotOf N p.1).map fun i => (p.1, i)
  | _ => none
def sameSlots (a b : List Nat) : Bool := (a.all fun i => b.contains i) && (b.all fun i => a.contains i)
theorem sameSlots_ok {a b : List Nat} (h : sameSlots a b = true) (i : Nat) : i ∈ a ↔ i ∈ b := by
  unfold sameSlots at h
  simp only [Bool.and_eq_true, List.all_eq_true, List.contains_iff_mem] at h
  exact ⟨fun z => h.1 i z, fun z => h.2 i z⟩
def glob? (sc : Scope) (x : Str) : Bool := decide (sc.names.lookup x = some .globalImplicit)

def ofIt (f : Expr → Option E) (sc : Scope) (tup : Bool) : Expr → Option It
  | .Call (.Name g q) as ks p =>
    if g = "range" ∧ glob? sc g = true ∧ ks.isEmpty = true then (match as with
      | [a] => (f a).map .rng1
      | [a, b] => (match f a, f b with | some x, some y => some (.rng2 x y) | _, _ => none)
      | _ => none)
    else if g = "enumerate" ∧ tup = true ∧ glob? sc g = true ∧ ks.isEmpty = true then (match as with
      | [a] => (f a).map .enum
      | _ => none)
    else if g = "zip" ∧ tup = true ∧ glob? sc g = true ∧ ks.isEmpty = true then (match as with
      | [a, b, c] => (match f a, f b, f c with | some x, some y, some z => some (.zip3 x y z) | _, _, _ => none)
      | _ => none)
    else (f (.Call (.Name g q) as ks p)).map .seq
  | e => (f e).map .seq

def isTup : Expr → Bool
  | .Tuple .. => true | _ => false
def isCall : Expr → Bool
  | .Call .. => true | _ => false
def okName (x : Str) : Bool := !(x == ("__debug__" : Str)) && !(x == ("__classdict__" : Str))
def ofE (N fns : List Str) : Nat → Scope → Expr → Option E
  | 0, _, _ => none
  | n + 1, sc, e => match e with
    | .Name x _ => if okName x then (match sc.names.lookup x with
        | some .local => (slotOf N x).map .var
        | some .cell => (slotOf N x).map .var
        | some .free => (slotOf N x).map .var
        | some .globalImplicit => some (.glob x)
        | _ => none) else none
    | .Constant (.int i) _ _ => some (.int i)
    | .Constant (.bool b) _ _ => some (.bl b)
    | .Constant .none _ _ => some .non
    | .Constant (.str x) _ _ => some (.str x)
    | .BinOp a op b _ => (match ofE N fns n sc a, ofE N fns n sc b with | some x, some y => some (.bin op x y) | _, _ => none)
    | .UnaryOp .USub a _ => (ofE N fns n sc a).map .neg
    | .UnaryOp .Not a _ => (ofE N fns n sc a).map .not
    | .BoolOp .And vs _ => if vs.length < 2 then none else ofBool (ofE N fns n sc) .and vs
    | .BoolOp .Or vs _ => if vs.length < 2 then none else ofBool (ofE N fns n sc) .or vs
    | .Compare a [op] [b] _ => (match ofE N fns n sc a, ofE N fns n sc b with | some x, some y => some (.cmp op x y) | _, _ => none)
    | .Compare a [o1, o2] [b, c] _ => (match ofE N fns n sc a, ofE N fns n sc b, ofE N fns n sc c with | some x, some y, some z => some (.chn o1 o2 x y z) | _, _, _ => none)
    | .IfExp c a b _ => (match ofE N fns n sc c, ofE N fns n sc a, ofE N fns n sc b with | some z, some x, some y => some (.ife z x y) | _, _, _ => none)
    | .Tuple es _ _ => (ofEs (ofE N fns n sc) es).map .tup
    | .List es _ => (ofEs (ofE N fns n sc) es).map .lst
    | .Subscript a (.Slice none none (some (.UnaryOp .USub (.Constant (.int 1) _ _) _)) _) _ => (ofE N fns n sc a).map .rev
    | .Subscript a (.Slice lo hi none _) _ => (match ofE N fns n sc a, ofO (ofE N fns n sc) lo, ofO (ofE N fns n sc) hi with | some x, some l, some u => some (.sl x l u) | _, _, _ => none)
    | .Subscript a b _ => (match ofE N fns n sc a, ofE N fns n sc b with | some x, some y => some (.ix x y) | _, _ => none)
    | .Call (.Name f _) as [] _ => if okName f ∧ glob? sc f = true then (
        if f = "isinstance" then (match as with
          | [a, .Name ty _] => if ty ∈ tyNames ∧ glob? sc ty = true then (ofE N fns n sc a).map fun x => .isin x (String.ofList (ty.cps.toList.map Char.ofNat)) else none
          | _ => none)
        else if f ∈ bltNames then (if as.isEmpty then none else (ofEs (ofE N fns n sc) as).map (.bi f))
        else if f ∈ fns then (ofEs (ofE N fns n sc) as).map (.call f)
        else none) else none
    | .Call (.Attribute o m apos) [a] [] pos => if (apos.endLine == pos.line) = true ∧ isCall o = false ∧ m ∈ (["append", "extend", "join"] : List Str) then (match ofE N fns n sc o, ofE N fns n sc a with | some x, some y => some (.meth m x (.cons y .nil)) | _, _ => none) else none
    | .FormattedValue a (-1) none _ => (ofE N fns n sc a).map .fmt
    | .JoinedStr vs _ => if vs.length < 2 then none else (ofEs (ofE N fns n sc) vs).map .fstr
    | .ListComp elt [⟨tg, iter, ifs, 0⟩] scope _ => if L2.blkC N sc scope (ownOf N scope) = true then
        (match ofTg N scope tg with
        | none => none
        | some t => if sameSlots ((ownOf N scope).map (·.2)) t.slots = true then (match ofIt (ofE N fns n sc) sc (isTup tg) iter, (match ifs with | [] => some Op.no | [c] => (ofE N fns n (L2.relS scope sc) c).map .yes | _ => none), ofE N fns n (L2.relS scope sc) elt with
          | some it, some c, some x => some (.comp x t it c)
          | _, _, _ => none) else none) else none
    | _ => none

/-- a lambda's parameters: none -/
def noPar (a : Arguments) : Bool := match a with
  | ⟨[], [], none, [], [], none, []⟩ => true
  | _ => false
/-- f(_law_heard(lambda: x), y) -/
def ofHc (N fns excs : List Str) (sc : Scope) : Expr → Option E
  | .Call (.Name f _) [.Call (.Name hd _) [.Lambda params body ls _] [] _, b] [] _ =>
    if (okName f = true ∧ glob? sc f = true ∧ f ∈ fns) ∧ hd = "_law_heard" ∧ glob? sc hd = true ∧ LamX.lamSB sc ls = true ∧ noPar params = true then (match ofE N fns 59 ls body, ofE N fns 59 sc b with
      | some x, some y => some (.call f (.cons (.heard excs x) (.cons y .nil)))
      | _, _ => none) else none
  | _ => none
/-- .. and such a thing negated -/
def ofH (N fns excs : List Str) (sc : Scope) : Expr → Option E
  | .UnaryOp .Not a _ => (ofHc N fns excs sc a).map .not
  | e => ofHc N fns excs sc e
def ofX (N fns excs : List Str) (sc : Scope) (e : Expr) : Option E := match ofH N fns excs sc e with
  | some x => some x
  | none => ofE N fns 60 sc e
def isComp : Expr → Bool
  | .ListComp .. => true | .SetComp .. => true | .DictComp .. => true | _ => false
def isFun (sc : Scope) : Bool := match sc.kind with | .function => true | _ => false
/-- a, b = x, y stored from the right -/
def parOk (sc : Scope) (x y : Str) (px py : Pos) (a b : Expr) : Bool := isFun sc && decide (sc.names.lookup x = some .local) && decide (sc.names.lookup y = some .local) && (px.line == py.line) && !(x == y) &&
  !([a, b].all (foldedForSure 8)) && !([a, b].all (constantsAlone 8))
/-- x = [..], the name a local's -/
def compOk (sc scope : Scope) (x : Str) (px pos : Pos) : Bool := isFun sc && decide (sc.names.lookup x = some .local) && (px.line == pos.line) && !(scope.names.any fun (n, k) => n == x && (k == .local || k == .cell))
def ofSs (pr : List Stmt → Option Ss) (f : Stmt → Option S) : List Stmt → Option Ss
  | [] => some .nil
  | s :: ss => match pr (s :: ss) with
    | some x => some x
    | none => match f s, ofSs pr f ss with
      | some a, some as => some (.cons a as)
      | _, _ => none
/-- x = zip(a, b, c); return s.join([.. for .. in x]) -/
def ofZip (N fns : List Str) (sc : Scope) : List Stmt → Option Ss
  | [.Assign [.Name x _] (.Call (.Name zz _) [a, b, c] [] _) _, .Return (some (.Call (.Attribute (.Constant (.str sep) _ _) mj apos) [.ListComp elt [⟨.Tuple ts _ _, .Name x' _, ifs, 0⟩] scope _] [] p2)) _] =>
    if (zz = "zip" ∧ glob? sc zz = true ∧ mj = "join" ∧ x = x' ∧ okName x = true ∧ sc.names.lookup x = some .local) ∧ (apos.endLine == p2.line) = true ∧ L2.blkC N sc scope (ownOf N scope) = true then
      (match slotOf N x, ofE N fns 59 sc a, ofE N fns 59 sc b, ofE N fns 59 sc c, (ofNames N scope ts) with
      | some i, some xa, some xb, some xc, some is =>
        if sameSlots ((ownOf N scope).map (·.2)) is = true then (match (match ifs with | [] => some Op.no | [c] => (ofE N fns 59 (L2.relS scope sc) c).map .yes | _ => none), ofE N fns 59 (L2.relS scope sc) elt with
          | some c, some y => some (.cons (.clr i) (.cons (.ret (.meth "join" (.str sep) (.cons (.comp y (.tp is) (.zip3 xa xb xc) c) .nil))) .nil))
          | _, _ => none) else none
      | _, _, _, _, _ => none) else none
  | _ => none
def ofS (N fns : List Str) (excs : List Str) (sc : Scope) : Nat → Stmt → Option S
  | 0, _ => none
  | n + 1, s => match s with
    | .Expr e _ => if isComp e then none else (ofE N fns 60 sc e).map .ex
    | .Assign [.Name x px] (.ListComp elt gs scope pos) _ => if compOk sc scope x px pos then (match slotOf N x, ofE N fns 60 sc (.ListComp elt gs scope pos) with
      | some i, some v => some (.set (.nm i) v)
      | _, _ => none) else none
    | .Assign [.Tuple [.Name x px, .Name y py] _ _] (.Tuple [a, b] _ _) _ => if parOk sc x y px py a b then (match slotOf N x, slotOf N y, ofE N fns 60 sc a, ofE N fns 60 sc b with
      | some i, some j, some v, some w => if i ≠ j then some (.par i j v w) else none
      | _, _, _, _ => none) else none
    | .Assign [.Subscript o i _] e _ => if isComp e then none else
      (match ofE N fns 60 sc o, ofE N fns 60 sc i, ofE N fns 60 sc e with
      | some x, some y, some v => some (.setIx x y v)
      | _, _, _ => none)
    | .Assign [tg] e _ => if isTup e || isComp e then none else
      (match ofTg N sc tg, ofE N fns 60 sc e with
      | some t, some v => some (.set t v)
      | _, _ => none)
    | .Return (some e) _ => (ofX N fns excs sc e).map .ret
    | .Return none _ => some .retN
    | .If c a b _ => (match ofX N fns excs sc c, ofSs (ofZip N fns sc) (ofS N fns excs sc n) a, ofSs (ofZip N fns sc) (ofS N fns excs sc n) b with
      | some x, some y, some z => some (.ite x y z)
      | _, _, _ => none)
    | .For tg iter body [] _ => (match ofTg N sc tg, ofIt (ofE N fns 60 sc) sc (isTup tg) iter, ofSs (ofZip N fns sc) (ofS N fns excs sc n) body with
      | some t, some it, some b => some (.for_ t it b)
      | _, _, _ => none)
    | .While c body [] _ => (match ofE N fns 60 sc c, ofSs (ofZip N fns sc) (ofS N fns excs sc n) body with
      | some x, some b => some (.while_ x b)
      | _, _ => none)
    | .Raise (some (.Call (.Name c _) [e] [] _)) none _ => if okName c ∧ glob? sc c = true ∧ c ∈ excs then (ofE N fns 60 sc e).map (.raise c) else none
    | .Pass _ => some .pass
    | .Break _ => some .brk
    | .Continue _ => some .cnt
    | _ => none
end Mill

set_option Elab.async false
set_option linter.all false
set_option maxRecDepth 100000
set_option maxHeartbeats 4000000
/-! Mill4: the operators. -/
namespace Mill
open PySem PySem.Spec PyProof.Rows L2

structure Wd where
  K : PySem.W.Frag
  T : List (Addr × Str)
  cA : Str → Addr

def ExcAt (W : Wd) (m : List Addr) (H : Hp) (c : Str) (w : D) (cls : Value) (d : Option Addr) : Prop :=
  cls = .ref (W.cA c) ∧ ∃ (dd : Addr) (fs : List (Str × V)) (vw : V), d = some dd ∧ H dd = some (.xd fs) ∧ fs.lookup ("what" : Str) = some vw ∧ Rep W.K m H w vw

/-- what is wanted of an evaluation that begins at (m, H) -/
def Post {α β : Type} (W : Wd) (xw : WX) (σ : L2.St) (m : List Addr) (H : Hp) (G : α → β → List Addr → Hp → Prop) (r : R α) (Q : β → Hp → Prop) : Prop := match r with
  | .ok a h1 => ∀ m1 H1 b, Ext [] m H m1 H1 → RelH W.K W.T m1 H1 h1 → G a b m1 H1 → Q b H1
  | .exc c w h1 => ∀ m1 H1 cls d, Ext [] m H m1 H1 → RelH W.K W.T m1 H1 h1 → ExcAt W m1 H1 c w cls d → xw cls d σ H1
  | .err => False
/-- a value that is handed on, its list (if it is one) new behind H -/
def GT (W : Wd) (H : Hp) (t : Tm) (v : V) (m1 : List Addr) (H1 : Hp) : Prop := ∃ F, RepT W.K m1 H1 t v F ∧ ∀ a ∈ F, H a = none
def GTs (W : Wd) (H : Hp) (ts : List Tm) (vs : List V) (m1 : List Addr) (H1 : Hp) : Prop := ∃ F, RepTs W.K m1 H1 ts vs F ∧ ∀ a ∈ F, H a = none
def GI {α : Type} (a b : α) (_ : List Addr) (_ : Hp) : Prop := b = a

section
variable {W : Wd} {xw : WX} {σ : L2.St} {m m1 : List Addr} {H H1 : Hp} {h h1 : AH} {α β α2 β2 : Type} {G : α → β → List Addr → Hp → Prop} {G2 : α2 → β2 → List Addr → Hp → Prop}

theorem post_bind {r : R α} {f : α → AH → R α2} {Q : β2 → Hp → Prop} (p : Post W xw σ m H G2 (r.bind f) Q) :
    Post W xw σ m H G r (fun b H1 => ∃ m1 h1 a, Ext [] m H m1 H1 ∧ RelH W.K W.T m1 H1 h1 ∧ G a b m1 H1 ∧ Post W xw σ m H G2 (f a h1) Q) := by
  cases r with
  | ok a h1 => exact fun m1 H1 b x r g => ⟨m1, h1, a, x, r, g, p⟩
  | exc c w h1 => exact p
  | err => exact p
theorem post_re {r : R α} {Q : β → Hp → Prop} {G' : α → β → List Addr → Hp → Prop} (p : Post W xw σ m H G r Q) (x : Ext [] m H m1 H1) (hg : ∀ a b m2 H2, G' a b m2 H2 → G a b m2 H2) : Post W xw σ m1 H1 G' r Q := by
  cases r with
  | ok a h1 => exact fun m2 H2 b x2 r g => p m2 H2 b (x.trans0 x2) r (hg _ _ _ _ g)
  | exc c w h1 => exact fun m2 H2 cls d x2 r g => p m2 H2 cls d (x.trans0 x2) r g
  | err => exact p
theorem GT.re (x : Ext [] m H m1 H1) {t : Tm} {v : V} {m2 : List Addr} {H2 : Hp} (g : GT W H1 t v m2 H2) : GT W H t v m2 H2 := by
  obtain ⟨F, r, f⟩ := g
  exact ⟨F, r, fun a ha => x.dom a (f a ha)⟩
theorem GTs.re (x : Ext [] m H m1 H1) {t : List Tm} {v : List V} {m2 : List Addr} {H2 : Hp} (g : GTs W H1 t v m2 H2) : GTs W H t v m2 H2 := by
  obtain ⟨F, r, f⟩ := g
  exact ⟨F, r, fun a ha => x.dom a (f a ha)⟩
theorem post_reT {r : R Tm} {Q : VK} (p : Post W xw σ m H (GT W H) r Q) (x : Ext [] m H m1 H1) : Post W xw σ m1 H1 (GT W H1) r Q := post_re p x fun _ _ _ _ g => g.re x
theorem post_mono {r : R α} {Q Q' : β → Hp → Prop} (p : Post W xw σ m H G r Q) (k : ∀ b H, Q b H → Q' b H) : Post W xw σ m H G r Q' := by
  cases r with
  | ok a h1 => exact fun m2 H2 b x2 r g => k _ _ (p m2 H2 b x2 r g)
  | exc c w h1 => exact p
  | err => exact p
/-- at the place itself -/
theorem post_at {a : α} {b : β} {Q : β → Hp → Prop} (p : Post W xw σ m H G (.ok a h) Q) (r : RelH W.K W.T m H h) (g : G a b m H) : Q b H := p m H b Ext.refl r g
theorem post_d {x : D} {v : V} {Q : VK} (p : Post W xw σ m H (GT W H) (.ok (.d x) h) Q) (r : RelH W.K W.T m H h) (q : Rep W.K m H x v) : Q v H :=
  post_at p r ⟨[], ⟨q, rfl⟩, fun _ z => absurd z (by simp)⟩
theorem post_tup {ds : List D} {vs : List V} {Q : VK} (p : Post W xw σ m H (GT W H) (.ok (.d (.tup ds)) h) Q) (r : RelH W.K W.T m H h) (q : Reps W.K m H ds vs) {a : Addr} (ha : H a = none) : Q (.ref a) (upd H a (.tup vs)) := by
  have x : Ext [] m H m (upd H a (.tup vs)) := Ext.new ha
  exact p m _ (.ref a) x (r.new ha) ⟨[], ⟨.tup (SqT.of upd_same) (x.reps q), rfl⟩, fun _ z => absurd z (by simp)⟩
theorem post_lst {ds : List D} {vs : List V} {Q : VK} (p : Post W xw σ m H (GT W H) (.ok (.l ds) h) Q) (r : RelH W.K W.T m H h) (q : Reps W.K m H ds vs) {a : Addr} (ha : H a = none) : Q (.ref a) (upd H a (.lst vs)) := by
  have x : Ext [] m H m (upd H a (.lst vs)) := Ext.new ha
  refine p m _ (.ref a) x (r.new ha) ⟨[a], ⟨a, vs, rfl, upd_same, x.reps q, fun z => ?_, rfl⟩, fun b hb => ?_⟩
  · obtain ⟨ws, e⟩ := r.isLst z
    rw [ha] at e; cases e
  · have : b = a := by simpa using hb
    subst this; exact ha

/-! ### arithmetic -/
theorem fold_size (x : Array Nat) : ∀ (n : Nat) (acc : Array Nat), (List.foldl (fun a b => a ++ b) acc (List.replicate n x)).size = acc.size + n * x.size
  | 0, acc => by simp
  | n + 1, acc => by
    rw [List.replicate_succ, List.foldl_cons, fold_size x n, Array.size_append, Nat.succ_mul]
    omega
theorem op_repS {X : Cx} : OpR X (binaryOp .Mult) (fun x y H Q => ∃ z k, x = .str z ∧ y = .int k ∧ 2 ≤ k ∧ k ≤ 1000 ∧ z.length ≤ 1000 ∧ 1 ≤ z.length ∧ Q (.str ⟨(List.replicate k.toNat z.cps).foldl (· ++ ·) #[]⟩) H) := by
  intro pins s σ H x y v u Q I rx ry h
  obtain ⟨z, k, rfl, rfl, h2, h3, h4, h5, q⟩ := h
  obtain ⟨t, rfl⟩ := rx
  obtain ⟨t', rfl⟩ := ry
  have hk : k.toNat ≤ 1000 := by omega
  have hl : z.length * k.toNat ≤ 1000 * 1000 := Nat.mul_le_mul h4 hk
  have e0 : ¬ k < 1 := by omega
  have e1 : (k == 1 || z.length == 0) = false := by
    have a1 : (k == 1) = false := by simp; omega
    have a2 : (z.length == 0) = false := by simp; omega
    rw [a1, a2]; rfl
  have hs : sizeLine = 16777216 := sizeLine_eq
  refine PySem.P.mul_str (by
    have a1 : ¬ k < -(2 ^ 63 : Int) := by omega
    have a2 : ¬ k ≥ 2 ^ 63 := by omega
    rw [decide_eq_false a1, decide_eq_false a2]; rfl) (fun _ _ hz => ?_) (fun _ _ => ?_) ?_
  · have : (1000 : Int) ≤ (2 ^ 63 - 1) / k := Int.le_ediv_of_mul_le (by omega) (by omega)
    omega
  · exact decide_eq_false (by omega)
  · rw [if_neg e0, e1]
    simp only [Bool.false_eq_true, if_false]
    refine ⟨?_, ⟨.str _, H, I.tok _, ⟨_, rfl⟩, q⟩⟩
    show (List.foldl (fun a b => a ++ b) #[] (List.replicate k.toNat z.cps)).size ≤ sizeLine
    rw [fold_size]
    have e3 : z.cps.size = z.length := rfl
    rw [e3, Nat.mul_comm]
    simp only [List.size_toArray, List.length_nil]
    omega

/-- what the rule of an operator asks, by what is computed -/
def BinOk (W : Wd) (X : Cx) (op : Operator) : Prop := ∃ r : R2, OpR X (binaryOp op) r ∧ ∀ (xw : WX) (σ : L2.St) (m : List Addr) (H : Hp) (h : AH) (t u : Tm) (x y : V) (F G : List Addr) (Q : VK), RelH W.K W.T m H h → RepT W.K m H t x F → RepT W.K m H u y G →
  Post W xw σ m H (GT W H) (binT op t u h) Q → r x y H Q
theorem bin_add {X : Cx} (hK : X.K = W.K) : BinOk W X .Add := by
  refine ⟨_, ((op_add (X := X)).or op_add_str).or ((op_catA (X := X)).or op_cat), fun xw σ m H h t u x y F G Q r a b p => ?_⟩
  have lists : Post W xw σ m H (GT W H) (match viewM t h, viewM u h with
        | some xs, some ys => if xs.length + ys.length ≤ sizeLine then .ok (.l (xs ++ ys)) h else .err
        | _, _ => .err) Q → rCat x y H Q := fun p => by
    cases e1 : viewM t h with
    | none => rw [e1] at p; exact p.elim
    | some xs =>
      cases e2 : viewM u h with
      | none => rw [e1, e2] at p; exact p.elim
      | some ys =>
        rw [e1, e2] at p
        by_cases hz : xs.length + ys.length ≤ sizeLine
        · simp only [if_pos hz] at p
          obtain ⟨a1, vs, rfl, q1, q2⟩ := a.viewM r e1
          obtain ⟨b1, ws, rfl, q3, q4⟩ := b.viewM r e2
          exact ⟨a1, b1, vs, ws, rfl, rfl, q1, q3, by rw [← q2.length, ← q4.length]; exact hz, fun c hc => post_lst p r (q2.append q4) hc⟩
        · simp only [if_neg hz] at p
          exact p.elim
  replace p : Post W xw σ m H (GT W H) (addT t u h) Q := p
  unfold addT at p
  split at p
  · have e1 := a.int; have e2 := b.int; subst e1; subst e2
    exact .inl (.inl ⟨_, _, rfl, rfl, post_d p r (.int _)⟩)
  · rename_i z w
    have e1 := a.str; have e2 := b.str; subst e1; subst e2
    by_cases hz : z.length + w.length ≤ sizeLine
    · rw [if_pos hz] at p
      exact .inl (.inr ⟨_, _, rfl, rfl, hz, post_d p r (.str _)⟩)
    · rw [if_neg hz] at p; exact p.elim
  · rename_i xs ys
    obtain ⟨a1, vs, rfl, q1, q2⟩ := a.tup
    obtain ⟨b1, ws, rfl, q3, q4⟩ := b.tup
    by_cases hz : xs.length + ys.length ≤ sizeLine
    · rw [if_pos hz] at p
      rw [q2.length, q4.length] at hz
      refine .inr (.inl ⟨a1, b1, vs, ws, rfl, rfl, by rw [hK]; exact q1, by rw [hK]; exact q3, hz, fun z => ?_, fun _ z => ?_, fun _ _ c hc => post_tup p r (q2.append q4) hc⟩)
      · subst z
        cases q2
        exact post_d p r (.tup q3 q4)
      · subst z
        cases q4
        rw [List.append_nil] at p
        exact post_d p r (.tup q1 q2)
    · rw [if_neg hz] at p; exact p.elim
  · exact .inr (.inr (lists p))
theorem bin_int {X : Cx} {op : Operator} {C : Int → Int → Prop} {f : Int → Int → Int} (ho : OpR X (binaryOp op) (rI C fun i j => .int (f i j)))
    (hb : ∀ t u h, binT op t u h = (match t, u with | .d (.int i), .d (.int j) => binT op (.d (.int i)) (.d (.int j)) h | _, _ => .err))
    (hc : ∀ i j h, binT op (.d (.int i)) (.d (.int j)) h = .err ∨ (C i j ∧ binT op (.d (.int i)) (.d (.int j)) h = .ok (.d (.int (f i j))) h)) : BinOk W X op := by
  refine ⟨_, ho, fun xw σ m H h t u x y F G Q r a b p => ?_⟩
  rw [hb] at p
  split at p
  · rename_i i j
    have e1 := a.int; have e2 := b.int; subst e1; subst e2
    rcases hc i j h with e | ⟨c, e⟩
    · rw [e] at p; exact p.elim
    · rw [e] at p
      exact ⟨_, _, rfl, rfl, c, post_d p r (.int _)⟩
  · exact p.elim
theorem int2 (t u : Tm) : (∃ i j, t = .d (.int i) ∧ u = .d (.int j)) ∨ ∀ i j, ¬ (t = .d (.int i) ∧ u = .d (.int j)) := by
  by_cases h : ∃ i j, t = .d (.int i) ∧ u = .d (.int j)
  · exact .inl h
  · exact .inr fun i j e => h ⟨i, j, e⟩
theorem bin_sub {X : Cx} : BinOk W X .Sub := bin_int (C := fun _ _ => True) (f := fun i j => i - j) (fun pins s σ H x y v u Q I rx ry h => by
    obtain ⟨i, j, e1, e2, _, q⟩ := h
    exact op_sub pins s σ H x y v u Q I rx ry ⟨i, j, e1, e2, q⟩) (fun t u h => by
    show subT t u h = _
    unfold subT
    split <;> simp_all [binT, subT]) fun i j h => .inr ⟨trivial, rfl⟩
theorem bin_fdiv {X : Cx} : BinOk W X .FloorDiv := bin_int (C := CDivW) (f := fun i j => i / j) op_fdivW (fun t u h => by
    show fdivT t u h = _
    unfold fdivT
    split <;> simp_all [binT, fdivT]) fun i j h => by
    by_cases c : 0 < j ∧ j.natAbs.log2 < 9000
    · exact .inr ⟨c, if_pos c⟩
    · exact .inl (if_neg c)
theorem bin_mod {X : Cx} : BinOk W X .Mod := bin_int (C := fun _ j => 0 < j) (f := fun i j => i % j) op_mod (fun t u h => by
    show modT t u h = _
    unfold modT
    split <;> simp_all [binT, modT]) fun i j h => by
    by_cases c : 0 < j
    · exact .inr ⟨c, if_pos c⟩
    · exact .inl (if_neg c)
theorem bin_pow {X : Cx} : BinOk W X .Pow := bin_int (C := CPow) (f := fun i j => i ^ j.toNat) op_pow (fun t u h => by
    show powT t u h = _
    unfold powT
    split <;> simp_all [binT, powT]) fun i j h => by
    by_cases c : 0 ≤ j ∧ j ≤ 1000000 ∧ i.natAbs < 2 ^ 64
    · exact .inr ⟨c, if_pos c⟩
    · exact .inl (if_neg c)
theorem bin_mul {X : Cx} (hK : X.K = W.K) : BinOk W X .Mult := by
  refine ⟨_, ((op_mul (X := X)).or op_mulW).or ((op_repT (X := X)).or op_repS), fun xw σ m H h t u x y F G Q r a b p => ?_⟩
  replace p : Post W xw σ m H (GT W H) (mulT t u h) Q := p
  unfold mulT at p
  split at p
  · rename_i i j
    have e1 := a.int; have e2 := b.int; subst e1; subst e2
    by_cases c : mulOk i j = true
    · rw [if_pos c] at p
      unfold mulOk at c
      simp only [Bool.or_eq_true, decide_eq_true_eq] at c
      rcases c with (c | c) | c
      · exact .inl (.inl ⟨_, _, rfl, rfl, .inl c, post_d p r (.int _)⟩)
      · exact .inl (.inl ⟨_, _, rfl, rfl, .inr c, post_d p r (.int _)⟩)
      · exact .inl (.inr ⟨_, _, rfl, rfl, c, post_d p r (.int _)⟩)
    · rw [if_neg c] at p; exact p.elim
  · rename_i xs k
    obtain ⟨a1, vs, rfl, q1, q2⟩ := a.tup
    have e2 := b.int; subst e2
    by_cases c : 2 ≤ k ∧ k ≤ 1000 ∧ xs.length ≤ 1000 ∧ xs ≠ []
    · rw [if_pos c] at p
      refine .inr (.inl ⟨a1, k, vs, rfl, rfl, by rw [hK]; exact q1, fun z => ?_, c.1, c.2.1, by rw [← q2.length]; exact c.2.2.1, fun d hd => post_tup p r (q2.rep _) hd⟩)
      subst z
      cases q2
      exact c.2.2.2 rfl
    · rw [if_neg c] at p; exact p.elim
  · rename_i z k
    have e1 := a.str; have e2 := b.int; subst e1; subst e2
    by_cases c : 2 ≤ k ∧ k ≤ 1000 ∧ z.length ≤ 1000 ∧ 1 ≤ z.length
    · rw [if_pos c] at p
      exact .inr (.inr ⟨z, k, rfl, rfl, c.1, c.2.1, c.2.2.1, c.2.2.2, post_d p r (.str _)⟩)
    · rw [if_neg c] at p; exact p.elim
  · exact p.elim
theorem bin_none {X : Cx} {op : Operator} (hb : ∀ t u h, binT op t u h = .err) : BinOk W X op :=
  ⟨fun _ _ _ _ => False, fun _ _ _ _ _ _ _ _ _ _ _ _ h => h.elim, fun xw σ m H h t u x y F G Q r a b p => by rw [hb] at p; exact p⟩
theorem bin_ok {X : Cx} (hK : X.K = W.K) : ∀ op, BinOk W X op
  | .Add => bin_add hK
  | .Sub => bin_sub
  | .Mult => bin_mul hK
  | .FloorDiv => bin_fdiv
  | .Mod => bin_mod
  | .Pow => bin_pow
  | .MatMult => bin_none fun _ _ _ => rfl
  | .Div => bin_none fun _ _ _ => rfl
  | .LShift => bin_none fun _ _ _ => rfl
  | .RShift => bin_none fun _ _ _ => rfl
  | .BitOr => bin_none fun _ _ _ => rfl
  | .BitXor => bin_none fun _ _ _ => rfl
  | .BitAnd => bin_none fun _ _ _ => rfl
end
end Mill

set_option Elab.async false
set_option linter.all false
set_option maxRecDepth 100000
set_option maxHeartbeats 4000000
/-! Mill5: comparisons, truth, subscripts, slices, built-ins, methods. -/
namespace Mill
open PySem PySem.Spec PyProof.Rows L2
section
variable {W : Wd} {xw : WX} {σ : L2.St} {m m1 : List Addr} {H H1 : Hp} {h h1 : AH}

theorem post_b {k : Bool} {Q : VK} (p : Post W xw σ m H (GT W H) (.ok (.d (.bl k)) h) Q) (r : RelH W.K W.T m H h) : Q (.bl k) H := post_d p r (.bl k)

/-! ### data -/
mutual
theorem Rep.dp {d : D} {v : V} {p : PyData} (r : Rep W.K m H d v) (e : pyD d = some p) : Dp W.K H v p := by
  match d, r with
  | .non, .non => cases e; exact .non
  | .bl b, .bl _ => cases e; exact .bl b
  | .int b, .int _ => cases e; exact .int b
  | .str b, .str _ => cases e; exact .str b
  | .tup ds, .tup q1 q2 =>
    simp only [pyD, Option.map_eq_some_iff] at e
    obtain ⟨ps, e1, rfl⟩ := e
    exact .tup q1 (Reps.dp q2 e1)
  | .fro ds, .fro q1 q2 =>
    simp only [pyD, Option.map_eq_some_iff] at e
    obtain ⟨ps, e1, rfl⟩ := e
    exact .lst q1.l (Reps.dp q2 e1)
  | .ref n, .ref _ => cases e
theorem Reps.dp {ds : List D} {vs : List V} {ps : List PyData} (r : Reps W.K m H ds vs) (e : pyDs ds = some ps) : DpAll W.K H vs ps := by
  match ds, r with
  | [], .nil => cases e; exact .nil
  | d :: ds, .cons q1 q2 =>
    simp only [pyDs] at e
    cases e1 : pyD d with
    | none => rw [e1] at e; cases e
    | some a =>
      cases e2 : pyDs ds with
      | none => rw [e1, e2] at e; cases e
      | some as =>
        rw [e1, e2] at e
        cases e
        exact .cons (Rep.dp q1 e1) (Reps.dp q2 e2)
end
theorem rept_dp {t : Tm} {v : V} {F : List Addr} {p : PyData} (r : RelH W.K W.T m H h) (a : RepT W.K m H t v F) (e : pyT t h = some p) : Dp W.K H v p := by
  have lst : ∀ ds, viewM t h = some ds → (pyDs ds).map PyData.list = some p → Dp W.K H v p := fun ds e1 e2 => by
    obtain ⟨b, vs, rfl, q1, q2⟩ := a.viewM r e1
    simp only [Option.map_eq_some_iff] at e2
    obtain ⟨ps, e3, rfl⟩ := e2
    exact .lst (SqL.of q1) (Reps.dp q2 e3)
  cases t with
  | l ds => exact lst ds rfl e
  | d x =>
    cases x with
    | ref n =>
      have e' : (match h[n]? with | some (Cell.lst ds) => (pyDs ds).map PyData.list | _ => none) = some p := e
      cases hc : h[n]? with
      | none => rw [hc] at e'; cases e'
      | some c =>
        cases c with
        | lst fs =>
          rw [hc] at e'
          refine lst fs ?_ e'
          show (match h[n]? with | some (Cell.lst ds) => some ds | _ => none) = some fs
          rw [hc]
    | _ => exact Rep.dp a.1 e

/-! ### comparisons -/
def CmpOk (W : Wd) (X : Cx) (op : CmpOp) : Prop := ∃ r : R2, OpR X (compareOp op) r ∧ ∀ (m : List Addr) (H : Hp) (h : AH) (t u : Tm) (x y : V) (F G : List Addr) (Q : VK) (k : Bool), RelH W.K W.T m H h → RepT W.K m H t x F → RepT W.K m H u y G →
  cmpT op t u h = some k → Q (.bl k) H → r x y H Q
theorem cmp_int {X : Cx} {op : CmpOp} {f : Int → Int → Bool} (ho : OpR X (compareOp op) (rI0 fun i j => .bl (f i j))) (hf : ∀ t u h, cmpT op t u h = ltT f t u) : CmpOk W X op := by
  refine ⟨_, ho, fun m H h t u x y F G Q k r a b e q => ?_⟩
  rw [hf] at e
  unfold ltT at e
  split at e
  · have e1 := a.int; have e2 := b.int; subst e1; subst e2
    cases e
    exact ⟨_, _, rfl, rfl, q⟩
  · cases e
theorem cmp_eq {X : Cx} (hK : X.K = W.K) (hu : X.A.units + 64 < cLine) : CmpOk W X .Eq := by
  refine ⟨_, op_eqD hu, fun m H h t u x y F G Q k r a b e q => ?_⟩
  have e' : eqT t u h = some k := e
  unfold eqT at e'
  cases e1 : pyT t h with
  | none => rw [e1] at e'; cases e'
  | some d1 =>
    cases e2 : pyT u h with
    | none => rw [e1, e2] at e'; cases e'
    | some d2 =>
      rw [e1, e2] at e'
      by_cases hs : (SeqAt.shaped d1 && SeqAt.shaped d2) = true
      · simp only [if_pos hs] at e'
        cases e'
        obtain ⟨h1, h2⟩ := Bool.and_eq_true_iff.mp hs
        exact ⟨d1, d2, by rw [hK]; exact rept_dp r a e1, by rw [hK]; exact rept_dp r b e2, h1, h2, q⟩
      · simp only [if_neg hs] at e'
        cases e'
theorem cmp_ne {X : Cx} (hK : X.K = W.K) (hu : X.A.units + 64 < cLine) : CmpOk W X .NotEq := by
  refine ⟨_, op_neD hu, fun m H h t u x y F G Q k r a b e q => ?_⟩
  have e' : (eqT t u h).map (!·) = some k := e
  simp only [Option.map_eq_some_iff] at e'
  obtain ⟨k', e', rfl⟩ := e'
  unfold eqT at e'
  cases e1 : pyT t h with
  | none => rw [e1] at e'; cases e'
  | some d1 =>
    cases e2 : pyT u h with
    | none => rw [e1, e2] at e'; cases e'
    | some d2 =>
      rw [e1, e2] at e'
      by_cases hs : (SeqAt.shaped d1 && SeqAt.shaped d2) = true
      · simp only [if_pos hs] at e'
        cases e'
        obtain ⟨h1, h2⟩ := Bool.and_eq_true_iff.mp hs
        exact ⟨d1, d2, by rw [hK]; exact rept_dp r a e1, by rw [hK]; exact rept_dp r b e2, h1, h2, q⟩
      · simp only [if_neg hs] at e'
        cases e'
/-- what is no truth is not the truth b -/
theorem op_is_notbl {X : Cx} : OpR X (compareOp .Is) (fun x y H Q => ∃ b, y = .bl b ∧ (x = .non ∨ (∃ i, x = .int i) ∨ (∃ i, x = .str i) ∨ ∃ i, x = .ref i) ∧ Q (.bl false) H) := by
  intro pins s σ H x y v u Q I rx ry h
  obtain ⟨b, rfl, h, q⟩ := h
  cases (show u = Value.bool b from ry)
  rcases h with rfl | ⟨i, rfl⟩ | ⟨i, rfl⟩ | ⟨i, rfl⟩
  · cases (show v = Value.none from rx)
    exact wpAny_is_other rfl (fun z => by cases z) ⟨.bl false, H, I, rfl, q⟩
  · obtain ⟨t, rfl⟩ := (show ∃ t, v = Value.int i t from rx)
    exact wpAny_is_other rfl (fun z => by cases z) ⟨.bl false, H, I, rfl, q⟩
  · obtain ⟨t, rfl⟩ := (show ∃ t, v = Value.str i t from rx)
    exact wpAny_is_other rfl (fun z => by cases z) ⟨.bl false, H, I, rfl, q⟩
  · cases (show v = Value.ref i from rx)
    exact wpAny_is_other rfl (fun z => by cases z) ⟨.bl false, H, I, rfl, q⟩
theorem op_isnot_notbl {X : Cx} : OpR X (compareOp .IsNot) (fun x y H Q => ∃ b, y = .bl b ∧ (x = .non ∨ (∃ i, x = .int i) ∨ (∃ i, x = .str i) ∨ ∃ i, x = .ref i) ∧ Q (.bl true) H) := by
  intro pins s σ H x y v u Q I rx ry h
  obtain ⟨b, rfl, h, q⟩ := h
  cases (show u = Value.bool b from ry)
  rcases h with rfl | ⟨i, rfl⟩ | ⟨i, rfl⟩ | ⟨i, rfl⟩
  · cases (show v = Value.none from rx)
    exact wpAny_isNot_other rfl (fun z => by cases z) ⟨.bl true, H, I, rfl, q⟩
  · obtain ⟨t, rfl⟩ := (show ∃ t, v = Value.int i t from rx)
    exact wpAny_isNot_other rfl (fun z => by cases z) ⟨.bl true, H, I, rfl, q⟩
  · obtain ⟨t, rfl⟩ := (show ∃ t, v = Value.str i t from rx)
    exact wpAny_isNot_other rfl (fun z => by cases z) ⟨.bl true, H, I, rfl, q⟩
  · cases (show v = Value.ref i from rx)
    exact wpAny_isNot_other rfl (fun z => by cases z) ⟨.bl true, H, I, rfl, q⟩
theorem RepT.none {t : Tm} {x : V} {F : List Addr} (a : RepT W.K m H t x F) : decide (x = .non) = isNone t := by
  cases t with
  | l ds => obtain ⟨p, vs, rfl, _⟩ := a; rfl
  | d y => obtain ⟨a, _⟩ := a; cases a <;> rfl
/-- the two ways of is -/
theorem is_ways {t u : Tm} {x y : V} {F G : List Addr} {k : Bool} (a : RepT W.K m H t x F) (b : RepT W.K m H u y G) (e : isIs t u = some k) :
    (y = .non ∧ k = decide (x = .non)) ∨ (∃ i j, x = .bl i ∧ y = .bl j ∧ k = decide (i = j)) ∨ (∃ j, y = .bl j ∧ (x = .non ∨ (∃ i, x = .int i) ∨ (∃ i, x = .str i) ∨ ∃ i, x = .ref i) ∧ k = false) := by
  unfold isIs at e
  split at e
  · cases e
    exact .inl ⟨b.non, a.none.symm⟩
  · cases e
    exact .inr (.inr ⟨_, b.bl, .inl a.non, rfl⟩)
  · cases e
    refine .inr (.inl ⟨_, _, a.bl, b.bl, ?_⟩)
    rename_i i j _
    cases i <;> cases j <;> rfl
  · cases e
    exact .inr (.inr ⟨_, b.bl, .inr (.inl ⟨_, a.int⟩), rfl⟩)
  · cases e
    exact .inr (.inr ⟨_, b.bl, .inr (.inr (.inl ⟨_, a.str⟩)), rfl⟩)
  · cases e
    obtain ⟨p, vs, rfl, _⟩ := a.tup
    exact .inr (.inr ⟨_, b.bl, .inr (.inr (.inr ⟨_, rfl⟩)), rfl⟩)
  · cases e
    obtain ⟨a, _⟩ := a
    cases a
    exact .inr (.inr ⟨_, b.bl, .inr (.inr (.inr ⟨_, rfl⟩)), rfl⟩)
  · cases e
    obtain ⟨a, _⟩ := a
    cases a
    exact .inr (.inr ⟨_, b.bl, .inr (.inr (.inr ⟨_, rfl⟩)), rfl⟩)
  · cases e
    obtain ⟨p, vs, rfl, _⟩ := a
    exact .inr (.inr ⟨_, b.bl, .inr (.inr (.inr ⟨_, rfl⟩)), rfl⟩)
  · cases e
theorem cmp_is {X : Cx} : CmpOk W X .Is := by
  refine ⟨_, (op_isN (X := X)).or ((op_is_bl (X := X)).or op_is_notbl), fun m H h t u x y F G Q k r a b e q => ?_⟩
  rcases is_ways a b (show isIs t u = some k from e) with ⟨h1, h2⟩ | ⟨i, j, h1, h2, h3⟩ | ⟨j, h1, h2, h3⟩
  · exact .inl ⟨h1, by rw [← h2]; exact q⟩
  · exact .inr (.inl ⟨i, j, h1, h2, by rw [← h3]; exact q⟩)
  · exact .inr (.inr ⟨j, h1, h2, by rw [← h3]; exact q⟩)
theorem cmp_isnot {X : Cx} : CmpOk W X .IsNot := by
  refine ⟨_, (op_notN (X := X)).or ((op_isnot_bl (X := X)).or op_isnot_notbl), fun m H h t u x y F G Q k r a b e q => ?_⟩
  have e' : (isIs t u).map (!·) = some k := e
  simp only [Option.map_eq_some_iff] at e'
  obtain ⟨k', e', rfl⟩ := e'
  rcases is_ways a b e' with ⟨h1, h2⟩ | ⟨i, j, h1, h2, h3⟩ | ⟨j, h1, h2, h3⟩
  · exact .inl ⟨h1, by rw [← h2]; exact q⟩
  · exact .inr (.inl ⟨i, j, h1, h2, by rw [← h3]; exact q⟩)
  · exact .inr (.inr ⟨j, h1, h2, by rw [h3] at q; exact q⟩)
theorem flat_ok {d : D} {v : V} (r : Rep W.K m H d v) (f : flatD d = true) : flatV v = true := by
  cases r <;> first | rfl | cases f
theorem eq_ok {d e : D} {v w : V} (r : Rep W.K m H d v) (s : Rep W.K m H e w) (f : flatD d = true) (g : flatD e = true) : eqV v w = eqF d e := by
  cases r <;> cases s <;> first | rfl | cases f | cases g
theorem flats_ok {ds : List D} {vs : List V} (r : Reps W.K m H ds vs) (f : ds.all flatD = true) : vs.all flatV = true := by
  induction ds generalizing vs with
  | nil => cases r; rfl
  | cons d ds ih =>
    cases r with
    | cons a b =>
      simp only [List.all_cons, Bool.and_eq_true] at f ⊢
      exact ⟨flat_ok a f.1, ih b f.2⟩
theorem any_ok {ds : List D} {vs : List V} {x : D} {v : V} (r : Reps W.K m H ds vs) (q : Rep W.K m H x v) (g : flatD x = true) (f : ds.all flatD = true) : inV v vs = ds.any fun y => eqF y x := by
  unfold inV
  induction ds generalizing vs with
  | nil => cases r; rfl
  | cons d ds ih =>
    cases r with
    | cons a b =>
      simp only [List.all_cons, Bool.and_eq_true] at f
      simp only [List.any_cons, ih b f.2, eq_ok a q f.1 g]
theorem in_ways (K0 : PySem.W.Frag) (hK : K0 = W.K) {t u : Tm} {x y : V} {F G : List Addr} {k : Bool} (r : RelH W.K W.T m H h) (a : RepT W.K m H t x F) (b : RepT W.K m H u y G) (e : inT t u h = some k) :
    (∃ i j, x = .str i ∧ y = .str j ∧ k = !(Builtin.Str.occurrences j i 0 j.length 1).isEmpty) ∨ (∃ p xs, y = .ref p ∧ (SqL K0 H p xs ∨ SqT K0 H p xs) ∧ flatV x = true ∧ xs.all flatV = true ∧ k = inV x xs) := by
  unfold inT at e
  split at e
  · cases e
    exact .inl ⟨_, _, a.str, b.str, rfl⟩
  · rename_i x0 _
    cases e1 : viewS u h with
    | none => rw [e1] at e; cases e
    | some ds =>
      rw [e1] at e
      obtain ⟨p, vs, rfl, q1, q2⟩ := b.viewS r e1
      have e : inD x0 ds = some k := e
      unfold inD at e
      by_cases hf : (flatD x0 && ds.all flatD) = true
      · rw [if_pos hf] at e
        cases e
        obtain ⟨f1, f2⟩ := Bool.and_eq_true_iff.mp hf
        exact .inr ⟨p, vs, rfl, by rw [hK]; exact q1, flat_ok a.1 f1, flats_ok q2 f2, (any_ok q2 a.1 f1 f2).symm⟩
      · rw [if_neg hf] at e
        cases e
  · cases e
theorem cmp_in {X : Cx} (hK : X.K = W.K) : CmpOk W X .In := by
  refine ⟨_, (op_in_str (X := X)).or op_in_seq, fun m H h t u x y F G Q k r a b e q => ?_⟩
  rcases in_ways X.K hK r a b (show inT t u h = some k from e) with ⟨i, j, h1, h2, h3⟩ | ⟨p, xs, h1, h2, h3, h4, h5⟩
  · exact .inl ⟨i, j, h1, h2, by rw [← h3]; exact q⟩
  · exact .inr ⟨p, xs, h1, h2, h3, h4, by rw [h5] at q; exact q⟩
theorem cmp_notin {X : Cx} (hK : X.K = W.K) : CmpOk W X .NotIn := by
  refine ⟨_, (op_notin_str (X := X)).or op_notIn_seq, fun m H h t u x y F G Q k r a b e q => ?_⟩
  have e' : (inT t u h).map (!·) = some k := e
  simp only [Option.map_eq_some_iff] at e'
  obtain ⟨k', e', rfl⟩ := e'
  rcases in_ways X.K hK r a b e' with ⟨i, j, h1, h2, h3⟩ | ⟨p, xs, h1, h2, h3, h4, h5⟩
  · exact .inl ⟨i, j, h1, h2, by rw [← h3]; exact q⟩
  · exact .inr ⟨p, xs, h1, h2, h3, h4, by rw [h5] at q; exact q⟩
theorem cmp_ok {X : Cx} (hK : X.K = W.K) (hu : X.A.units + 64 < cLine) : ∀ op, CmpOk W X op
  | .Eq => cmp_eq hK hu
  | .NotEq => cmp_ne hK hu
  | .Lt => cmp_int op_lt fun _ _ _ => rfl
  | .LtE => cmp_int op_le fun _ _ _ => rfl
  | .Gt => cmp_int op_gt fun _ _ _ => rfl
  | .GtE => cmp_int op_ge fun _ _ _ => rfl
  | .Is => cmp_is
  | .IsNot => cmp_isnot
  | .In => cmp_in hK
  | .NotIn => cmp_notin hK

/-! ### truth -/
theorem isEmpty_reps {ds : List D} {vs : List V} (q : Reps W.K m H ds vs) : ds.isEmpty = vs.isEmpty := by cases q <;> rfl
theorem tru_of (K0 : PySem.W.Frag) (hK : K0 = W.K) {t : Tm} {x : V} {F : List Addr} {k : Bool} (r : RelH W.K W.T m H h) (a : RepT W.K m H t x F) (e : truT t h = some k) : TruV K0 x H k := by
  subst hK
  unfold truT at e
  split at e
  · cases e; rw [a.non]; rfl
  · cases e; rw [a.bl]; rfl
  · cases e; rw [a.int]; rfl
  · rename_i z
    by_cases hz : z.length ≤ sizeLine
    · rw [if_pos hz] at e
      cases e
      rw [a.str]
      refine ⟨hz, ?_⟩
      cases z.length <;> rfl
    · rw [if_neg hz] at e; cases e
  · cases e
    obtain ⟨p, vs, rfl, q1, q2⟩ := a.tup
    exact .inr (.inl ⟨vs, q1, by rw [isEmpty_reps q2]⟩)
  · cases e1 : viewL t h with
    | none => rw [e1] at e; cases e
    | some ds =>
      rw [e1] at e
      cases e
      obtain ⟨p, vs, rfl, q1, q2⟩ := a.viewL r e1
      exact .inl ⟨vs, q1, by rw [isEmpty_reps q2]⟩

/-! ### items, slices -/
theorem at_ok {ds : List D} {vs : List V} {i : Int} {d : D} (q : Reps W.K m H ds vs) (e : atI ds i = some d) : ∃ v, atI vs i = some v ∧ Rep W.K m H d v := by
  unfold atI at e ⊢
  rw [← q.length]
  cases e1 : ixN ds.length i with
  | none => rw [e1] at e; cases e
  | some j =>
    rw [e1] at e
    obtain ⟨v, h1, h2⟩ := q.get (show ds[j]? = some d from e)
    exact ⟨v, h1, h2⟩
theorem ix_ok (K0 : PySem.W.Frag) (hK : K0 = W.K) {t u : Tm} {x y : V} {F G : List Addr} {Q : VK} (r : RelH W.K W.T m H h) (a : RepT W.K m H t x F) (b : RepT W.K m H u y G) (p : Post W xw σ m H (GT W H) (ixT t u h) Q) : rIx K0 x y H Q := by
  subst hK
  unfold ixT at p
  split at p
  · rename_i i
    have e2 := b.int
    subst e2
    split at p
    · rename_i z
      have e1 := a.str
      subst e1
      by_cases hz : z.length ≤ sizeLine
      · rw [if_pos hz] at p
        cases e : atI z.cps.toList i with
        | none => rw [e] at p; exact p.elim
        | some c =>
          rw [e] at p
          exact .inr (.inr ⟨z, i, c, rfl, rfl, hz, e, post_d p r (.str _)⟩)
      · rw [if_neg hz] at p; exact p.elim
    · cases e1 : viewS t h with
      | none => rw [e1] at p; exact p.elim
      | some ds =>
        rw [e1] at p
        cases e : atI ds i with
        | none => simp only [e] at p; exact p.elim
        | some d =>
          simp only [e] at p
          obtain ⟨q, vs, rfl, q1, q2⟩ := a.viewS r e1
          obtain ⟨v, e3, q3⟩ := at_ok q2 e
          rcases q1 with q1 | q1
          · exact .inl ⟨q, vs, i, v, rfl, rfl, q1, e3, post_d p r q3⟩
          · exact .inr (.inl ⟨q, vs, i, v, rfl, rfl, q1, e3, post_d p r q3⟩)
  · exact p.elim
theorem cut_ok {ds : List D} {vs : List V} (q : Reps W.K m H ds vs) (lo hi : Option Int) : Reps W.K m H (cutL ds lo hi) (cutV vs lo hi) := by
  unfold cutL cutV
  rw [q.length]
  exact (q.drop _).take _
def rSl (K : PySem.W.Frag) : V → Option Int → Option Int → Hp → VK → Prop := fun x lo hi H Q => rSlA K x lo hi H Q ∨ rSlL K x lo hi H Q
theorem sl_any {X : Cx} : SlR X (rSl X.K) := sl_tupA.or sl_list
theorem sl_ok (K0 : PySem.W.Frag) (hK : K0 = W.K) {t : Tm} {x : V} {F : List Addr} {lo hi : Option Int} {Q : VK} (r : RelH W.K W.T m H h) (a : RepT W.K m H t x F) (p : Post W xw σ m H (GT W H) (slT t lo hi h) Q) : rSl K0 x lo hi H Q := by
  subst hK
  unfold slT at p
  split at p
  · rename_i ds
    obtain ⟨b, vs, rfl, q1, q2⟩ := a.tup
    refine .inl ⟨b, vs, rfl, q1, fun hz => ?_, fun _ c hc => post_tup p r (cut_ok q2 lo hi) hc⟩
    have e : cutL ds lo hi = ds := by
      unfold cutL
      rw [q2.length, hz.1, hz.2, Nat.sub_zero, List.drop_zero, ← q2.length, List.take_length]
    rw [e] at p
    exact post_d p r (.tup q1 q2)
  · cases e1 : viewL t h with
    | none => rw [e1] at p; exact p.elim
    | some ds =>
      rw [e1] at p
      obtain ⟨b, vs, rfl, q1, q2⟩ := a.viewL r e1
      exact .inr ⟨b, vs, rfl, q1, fun c hc => post_lst p r (cut_ok q2 lo hi) hc⟩
end
end Mill

set_option Elab.async false
set_option linter.all false
set_option maxRecDepth 100000
set_option maxHeartbeats 4000000
/-! Mill6: built-ins, methods. -/
namespace Mill
open PySem PySem.Spec PyProof.Rows L2
section
variable {W : Wd} {xw : WX} {σ : L2.St} {m m1 : List Addr} {H H1 : Hp} {h h1 : AH}

def BiOk (W : Wd) (X : Cx) (f : Str) : Prop := ∃ r : List V → Hp → VK → Prop, ((∃ id, bootBuiltins f = some (.builtin id) ∧ CallR X (.builtin id) r) ∨ ∃ T, bootBuiltins f = some (.type T) ∧ CallR X (.type T) r) ∧
  ∀ (xw : WX) (σ : L2.St) (m : List Addr) (H : Hp) (h : AH) (ts : List Tm) (vs : List V) (F : List Addr) (Q : VK), RelH W.K W.T m H h → RepTs W.K m H ts vs F → Post W xw σ m H (GT W H) (biT f ts h) Q → r vs H Q
theorem RepTs.one {t : Tm} {vs : List V} {F : List Addr} (q : RepTs W.K m H [t] vs F) : ∃ v, vs = [v] ∧ ∃ F1, RepT W.K m H t v F1 := by
  cases q with
  | cons a b c => cases b; exact ⟨_, rfl, _, a⟩
theorem RepTs.two {t u : Tm} {vs : List V} {F : List Addr} (q : RepTs W.K m H [t, u] vs F) : ∃ v w, vs = [v, w] ∧ (∃ F1, RepT W.K m H t v F1) ∧ ∃ F2, RepT W.K m H u w F2 := by
  cases q with
  | cons a b c =>
    cases b with
    | cons a2 b2 c2 => cases b2; exact ⟨_, _, rfl, ⟨_, a⟩, _, a2⟩

theorem biT_int (as : List Tm) (h : AH) : biT "int" as h = biInt as h := by
  unfold biT
  rw [if_pos rfl]
theorem biT_len (as : List Tm) (h : AH) : biT "len" as h = biLen as h := by
  unfold biT
  rw [if_neg (by decide +kernel), if_pos rfl]
theorem biT_max (as : List Tm) (h : AH) : biT "max" as h = biMax as h := by
  unfold biT
  rw [if_neg (by decide +kernel), if_neg (by decide +kernel), if_pos rfl]
theorem biT_min (as : List Tm) (h : AH) : biT "min" as h = biMin as h := by
  unfold biT
  rw [if_neg (by decide +kernel), if_neg (by decide +kernel), if_neg (by decide +kernel), if_pos rfl]
theorem biT_tuple (as : List Tm) (h : AH) : biT "tuple" as h = biTuple as h := by
  unfold biT
  rw [if_neg (by decide +kernel), if_neg (by decide +kernel), if_neg (by decide +kernel), if_neg (by decide +kernel), if_pos rfl]
theorem biT_list (as : List Tm) (h : AH) : biT "list" as h = biList as h := by
  unfold biT
  rw [if_neg (by decide +kernel), if_neg (by decide +kernel), if_neg (by decide +kernel), if_neg (by decide +kernel), if_neg (by decide +kernel), if_pos rfl]
theorem biT_str (as : List Tm) (h : AH) : biT "str" as h = biStr as h := by
  unfold biT
  rw [if_neg (by decide +kernel), if_neg (by decide +kernel), if_neg (by decide +kernel), if_neg (by decide +kernel), if_neg (by decide +kernel), if_neg (by decide +kernel), if_pos rfl]
theorem biT_all (as : List Tm) (h : AH) : biT "all" as h = biAll as h := by
  unfold biT
  rw [if_neg (by decide +kernel), if_neg (by decide +kernel), if_neg (by decide +kernel), if_neg (by decide +kernel), if_neg (by decide +kernel), if_neg (by decide +kernel), if_neg (by decide +kernel), if_pos rfl]
theorem biT_any (as : List Tm) (h : AH) : biT "any" as h = biAny as h := by
  unfold biT
  rw [if_neg (by decide +kernel), if_neg (by decide +kernel), if_neg (by decide +kernel), if_neg (by decide +kernel), if_neg (by decide +kernel), if_neg (by decide +kernel), if_neg (by decide +kernel), if_neg (by decide +kernel), if_pos rfl]
theorem bi_int {X : Cx} : BiOk W X "int" := by
  refine ⟨_, .inr ⟨"int", by decide +kernel, call_int1⟩, fun xw σ m H h ts vs F Q r q p => ?_⟩
  replace p : Post W xw σ m H (GT W H) (biInt ts h) Q := by rw [biT_int] at p; exact p
  unfold biInt at p
  split at p
  · obtain ⟨v, rfl, F1, q⟩ := q.one
    rw [q.int]
    exact .inl ⟨_, rfl, post_d p r (.int _)⟩
  · obtain ⟨v, rfl, F1, q⟩ := q.one
    rw [q.bl]
    exact .inr ⟨_, rfl, post_d p r (.int _)⟩
  · exact p.elim
theorem bi_len {X : Cx} (hK : X.K = W.K) : BiOk W X "len" := by
  refine ⟨_, .inl ⟨"len", by decide +kernel, call_len⟩, fun xw σ m H h ts vs F Q r q p => ?_⟩
  replace p : Post W xw σ m H (GT W H) (biLen ts h) Q := by rw [biT_len] at p; exact p
  unfold biLen at p
  split at p
  · rename_i z
    obtain ⟨v, rfl, F1, q⟩ := q.one
    rw [q.str]
    by_cases hz : z.length ≤ sizeLine
    · rw [if_pos hz] at p
      exact ⟨_, z.length, rfl, ⟨hz, rfl⟩, post_d p r (.int _)⟩
    · rw [if_neg hz] at p; exact p.elim
  · rename_i t _
    obtain ⟨v, rfl, F1, q⟩ := q.one
    cases e : viewS t h with
    | none => rw [e] at p; exact p.elim
    | some ds =>
      rw [e] at p
      obtain ⟨a, vs, rfl, q1, q2⟩ := q.viewS r e
      have p' := post_d p r (.int _)
      rw [q2.length] at p'
      rcases q1 with q1 | q1
      · exact ⟨_, vs.length, rfl, .inl ⟨vs, by rw [hK]; exact q1, rfl⟩, p'⟩
      · exact ⟨_, vs.length, rfl, .inr ⟨vs, by rw [hK]; exact q1, rfl⟩, p'⟩
  · exact p.elim
theorem bi_max {X : Cx} (hc : X.calm = true) : BiOk W X "max" := by
  refine ⟨_, .inl ⟨"max", by decide +kernel, call_max2 hc⟩, fun xw σ m H h ts vs F Q r q p => ?_⟩
  replace p : Post W xw σ m H (GT W H) (biMax ts h) Q := by rw [biT_max] at p; exact p
  unfold biMax at p
  split at p
  · obtain ⟨v, w, rfl, ⟨F1, q1⟩, F2, q2⟩ := q.two
    rw [q1.int, q2.int]
    exact ⟨_, _, rfl, post_d p r (.int _)⟩
  · exact p.elim
theorem bi_min {X : Cx} (hc : X.calm = true) : BiOk W X "min" := by
  refine ⟨_, .inl ⟨"min", by decide +kernel, call_min2 hc⟩, fun xw σ m H h ts vs F Q r q p => ?_⟩
  replace p : Post W xw σ m H (GT W H) (biMin ts h) Q := by rw [biT_min] at p; exact p
  unfold biMin at p
  split at p
  · obtain ⟨v, w, rfl, ⟨F1, q1⟩, F2, q2⟩ := q.two
    rw [q1.int, q2.int]
    exact ⟨_, _, rfl, post_d p r (.int _)⟩
  · exact p.elim
theorem bi_tuple {X : Cx} (hK : X.K = W.K) : BiOk W X "tuple" := by
  refine ⟨_, .inr ⟨"tuple", by decide +kernel, call_tuple_of⟩, fun xw σ m H h ts vs F Q r q p => ?_⟩
  replace p : Post W xw σ m H (GT W H) (biTuple ts h) Q := by rw [biT_tuple] at p; exact p
  unfold biTuple at p
  split at p
  · obtain ⟨v, rfl, F1, q⟩ := q.one
    obtain ⟨a, vs, rfl, q1, q2⟩ := q.tup
    exact ⟨a, vs, rfl, .inr ⟨by rw [hK]; exact q1, post_d p r (.tup q1 q2)⟩⟩
  · rename_i t _
    obtain ⟨v, rfl, F1, q⟩ := q.one
    cases e : viewL t h with
    | none => rw [e] at p; exact p.elim
    | some ds =>
      rw [e] at p
      obtain ⟨a, vs, rfl, q1, q2⟩ := q.viewL r e
      exact ⟨a, vs, rfl, .inl ⟨by rw [hK]; exact q1, fun l hl => post_tup p r q2 hl⟩⟩
  · exact p.elim
theorem bi_list {X : Cx} (hK : X.K = W.K) : BiOk W X "list" := by
  refine ⟨_, .inr ⟨"list", by decide +kernel, call_list_of⟩, fun xw σ m H h ts vs F Q r q p => ?_⟩
  replace p : Post W xw σ m H (GT W H) (biList ts h) Q := by rw [biT_list] at p; exact p
  unfold biList at p
  split at p
  · rename_i t
    obtain ⟨v, rfl, F1, q⟩ := q.one
    cases e : viewS t h with
    | none => rw [e] at p; exact p.elim
    | some ds =>
      rw [e] at p
      obtain ⟨a, vs, rfl, q1, q2⟩ := q.viewS r e
      exact ⟨a, vs, rfl, by rw [hK]; exact q1, fun l hl => post_lst p r q2 hl⟩
  · exact p.elim
theorem bi_str {X : Cx} : BiOk W X "str" := by
  refine ⟨_, .inr ⟨"str", by decide +kernel, call_str_int⟩, fun xw σ m H h ts vs F Q r q p => ?_⟩
  replace p : Post W xw σ m H (GT W H) (biStr ts h) Q := by rw [biT_str] at p; exact p
  unfold biStr at p
  split at p
  · rename_i i
    obtain ⟨v, rfl, F1, q⟩ := q.one
    rw [q.int]
    by_cases hz : i.natAbs.log2 < 1920
    · rw [if_pos hz] at p
      exact ⟨_, rfl, hz, post_d p r (.str _)⟩
    · rw [if_neg hz] at p; exact p.elim
  · exact p.elim
theorem bi_all {X : Cx} (hK : X.K = W.K) (hc : X.calm = true) : BiOk W X "all" := by
  refine ⟨_, .inl ⟨"all", by decide +kernel, cr_all hc⟩, fun xw σ m H h ts vs F Q r q p => ?_⟩
  replace p : Post W xw σ m H (GT W H) (biAll ts h) Q := by rw [biT_all] at p; exact p
  unfold biAll at p
  split at p
  · rename_i t
    obtain ⟨v, rfl, F1, q⟩ := q.one
    cases e : viewL t h with
    | none => rw [e] at p; exact p.elim
    | some ds =>
      rw [e] at p
      cases e2 : bls? ds with
      | none => simp only [e2] at p; exact p.elim
      | some bs =>
        simp only [e2] at p
        obtain ⟨a, vs, rfl, q1, q2⟩ := q.viewL r e
        have e3 := q2.bls e2
        subst e3
        exact ⟨a, bs, rfl, by rw [hK]; exact q1, post_d p r (.bl _)⟩
  · exact p.elim
theorem bi_any {X : Cx} (hK : X.K = W.K) (hc : X.calm = true) : BiOk W X "any" := by
  refine ⟨_, .inl ⟨"any", by decide +kernel, cr_any hc⟩, fun xw σ m H h ts vs F Q r q p => ?_⟩
  replace p : Post W xw σ m H (GT W H) (biAny ts h) Q := by rw [biT_any] at p; exact p
  unfold biAny at p
  split at p
  · rename_i t
    obtain ⟨v, rfl, F1, q⟩ := q.one
    cases e : viewL t h with
    | none => rw [e] at p; exact p.elim
    | some ds =>
      rw [e] at p
      cases e2 : bls? ds with
      | none => simp only [e2] at p; exact p.elim
      | some bs =>
        simp only [e2] at p
        obtain ⟨a, vs, rfl, q1, q2⟩ := q.viewL r e
        have e3 := q2.bls e2
        subst e3
        exact ⟨a, bs, rfl, by rw [hK]; exact q1, post_d p r (.bl _)⟩
  · exact p.elim
theorem bi_ok {X : Cx} (hK : X.K = W.K) (hc : X.calm = true) {f : Str} (hf : f ∈ bltNames) : BiOk W X f := by
  simp only [bltNames, List.mem_cons, List.mem_nil_iff, or_false] at hf
  rcases hf with rfl | rfl | rfl | rfl | rfl | rfl | rfl | rfl | rfl
  · exact bi_int
  · exact bi_len hK
  · exact bi_max hc
  · exact bi_min hc
  · exact bi_tuple hK
  · exact bi_list hK
  · exact bi_str
  · exact bi_all hK hc
  · exact bi_any hK hc

/-! ### methods: the wish is told at an earlier place -/
theorem ap_ok {m0 : List Addr} {H0 : Hp} {t u : Tm} {x y : V} {F G : List Addr} {Q : VK} (x0 : Ext [] m0 H0 m H) (r : RelH W.K W.T m H h) (a : RepT W.K m H t x F) (b : RepT W.K m H u y G) (fr : ∀ a ∈ G, H0 a = none)
    (p : Post W xw σ m0 H0 (GT W H0) (mAppend t u h) Q) : rAppend x [y] H Q := by
  unfold mAppend at p
  split at p
  · rename_i n
    obtain ⟨a, _⟩ := a
    cases a with
    | @ref _ l hn =>
      cases hc : h[n]? with
      | none => rw [hc] at p; exact p.elim
      | some c =>
        cases c with
        | lst ds =>
          rw [hc] at p
          by_cases hz : ds.length < sizeLine
          · simp only [if_pos hz] at p
            obtain ⟨vs, q1, q2⟩ := r.cell n l ds hn hc
            refine ⟨l, vs, y, rfl, rfl, q1, by rw [← q2.length]; exact hz, ?_⟩
            obtain ⟨r1, b1, x1⟩ := b.name r
            have x2 : Ext [] m0 H0 (m ++ G) H := x0.trans x1 fun a ha => .inl (fr a ha)
            have hn1 : (m ++ G)[n]? = some l := x1.ix n l hn
            have x3 : Ext [] (m ++ G) H (m ++ G) (upd H l (.lst (vs ++ [y]))) := Ext.write (List.mem_of_getElem? hn1) q1
            have r3 := r1.write hn1 q1 ((x1.reps q2).append (.cons b1 .nil))
            exact p _ _ _ (x2.trans0 x3) r3 ⟨[], ⟨.non, rfl⟩, fun _ z => absurd z (by simp)⟩
          · simp only [if_neg hz] at p; exact p.elim
  · exact p.elim
theorem xt_ok {m0 : List Addr} {H0 : Hp} {t u : Tm} {x y : V} {F G : List Addr} {Q : VK} (x0 : Ext [] m0 H0 m H) (r : RelH W.K W.T m H h) (a : RepT W.K m H t x F) (b : RepT W.K m H u y G)
    (p : Post W xw σ m0 H0 (GT W H0) (mExtend t u h) Q) : rExtend x [y] H Q := by
  unfold mExtend at p
  split at p
  · rename_i n
    obtain ⟨a, _⟩ := a
    cases a with
    | @ref _ l hn =>
      cases hc : h[n]? with
      | none => rw [hc] at p; exact p.elim
      | some c =>
        cases c with
        | lst ds =>
          cases e2 : viewM u h with
          | none => rw [hc, e2] at p; exact p.elim
          | some es =>
            rw [hc, e2] at p
            by_cases hz : ds.length + es.length ≤ sizeLine
            · simp only [if_pos hz] at p
              obtain ⟨vs, q1, q2⟩ := r.cell n l ds hn hc
              obtain ⟨c, ws, rfl, q3, q4⟩ := b.viewM r e2
              refine ⟨l, c, vs, ws, rfl, rfl, q1, q3, by rw [← q2.length, ← q4.length]; exact hz, ?_⟩
              have x3 : Ext [] m H m (upd H l (.lst (vs ++ ws))) := Ext.write (List.mem_of_getElem? hn) q1
              have r3 := r.write hn q1 (q2.append q4)
              exact p _ _ _ (x0.trans0 x3) r3 ⟨[], ⟨.non, rfl⟩, fun _ z => absurd z (by simp)⟩
            · simp only [if_neg hz] at p; exact p.elim
  · exact p.elim
theorem jn_ok (K0 : PySem.W.Frag) (hK : K0 = W.K) {t u : Tm} {x y : V} {F G : List Addr} {Q : VK} (r : RelH W.K W.T m H h) (a : RepT W.K m H t x F) (b : RepT W.K m H u y G)
    (p : Post W xw σ m H (GT W H) (mJoin t u h) Q) : ∃ a p, ∃ ys : List Str, x = .str a ∧ [y] = [.ref p] ∧ (SqL K0 H p (ys.map V.str) ∨ SqT K0 H p (ys.map V.str)) ∧
    (ys.map (·.length)).sum + ys.length * a.length ≤ 16777216 ∧ Q (.str (Txt.join a ys)) H := by
  subst hK
  unfold mJoin at p
  split at p
  · rename_i z
    rw [a.str]
    cases e1 : viewS u h with
    | none => rw [e1] at p; exact p.elim
    | some ds =>
      rw [e1] at p
      cases e2 : strs? ds with
      | none => simp only [e2] at p; exact p.elim
      | some ys =>
        simp only [e2] at p
        by_cases hz : (ys.map (·.length)).sum + ys.length * z.length ≤ 16777216
        · simp only [if_pos hz] at p
          obtain ⟨c, vs, rfl, q1, q2⟩ := b.viewS r e1
          have e3 := q2.strs e2
          subst e3
          exact ⟨z, c, ys, rfl, rfl, q1, hz, post_d p r (.str _)⟩
        · simp only [if_neg hz] at p; exact p.elim
  · exact p.elim
end
end Mill

set_option Elab.async false
set_option linter.all false
set_option maxRecDepth 100000
set_option maxHeartbeats 4000000
/-! Mill7: what is computed of an expression is what the program does. -/
namespace Mill
open PySem PySem.Spec PyProof.Rows L2

/-- a value of a call: F: lists in passing that were handed in -/
def PostC (W : Wd) (F m : List Addr) (H : Hp) (r : R Tm) (Q : VK) (Ex : XK) : Prop := match r with
  | .ok t h1 => ∀ m1 H1 v G, Ext F m H m1 H1 → RelH W.K W.T m1 H1 h1 → RepT W.K m1 H1 t v G → (∀ a ∈ G, H a = none ∨ a ∈ F) → Q v H1
  | .exc c w h1 => ∀ m1 H1 cls d, Ext F m H m1 H1 → RelH W.K W.T m1 H1 h1 → ExcAt W m1 H1 c w cls d → Ex cls d H1
  | .err => False
/-- a def's promise: what is computed -/
def spOf (W : Wd) (g : List Tm → AH → R Tm) : Sp := fun vs H Q Ex => ∃ m h ts F, RelH W.K W.T m H h ∧ RepTs W.K m H ts vs F ∧ PostC W F m H (g ts h) Q Ex

structure Ok (W : Wd) (C : Cfg) (N fns : List Str) (lev : Nat) (sc : Scope) (X : Cx) (xw : WX) : Prop where
  hK : X.K = W.K
  hN : X.N = N
  calm : X.calm = true
  nd : N.Nodup
  hsc : X.env.scope = sc
  room : Room lev X.A
  takes : L2N.Takes X xw
  pass : PassesOwn (model X.prog X.w) X.A X.env X.xe
  blt : ∀ x, x ∈ bltNames ∨ x ∈ iterNames ∨ x = "isinstance" ∨ x ∈ tyNames → X.mg x = none
  glob : ∀ x d, C.glob x = some d → ∃ u v, X.mg x = some u ∧ RelV v u ∧ ∀ m H, Rep W.K m H d v
  calls : ∀ f ∈ fns, ∃ a k fd ps, X.mg f = some (.ref a) ∧ PySem.W.keepIn X.K (.ref a) = true ∧ L2.Binds X.K fd ps [] ∧
    FnOk X.prog X.w X.K X.mg X.base (L2N.CX X.prog X.w) k a fd ps (spOf W (C.call f)) ∧ k ≤ lev

/-- a source at (m0, H0) as the walk J -/
def SrcOk (W : Wd) (s : Src) (J : L2.It) (m0 : List Addr) (H0 : Hp) : Prop :=
  (∀ (i : Nat) (m : List Addr) (H : Hp) (h : AH) (d : D), Ext [] m0 H0 m H → RelH W.K W.T m H h → i < s.len → s.get h i = some d → J.go i H ∧ ∀ x H', J.yld i H x H' → Ext [] m H m H' ∧ RelH W.K W.T m H' h ∧ Rep W.K m H' d x) ∧
  (∀ (m : List Addr) (H : Hp) (h : AH), Ext [] m0 H0 m H → RelH W.K W.T m H h → s.fin h = true → J.stop s.len H)
def GS (W : Wd) (s : Src) (J : L2.It) (m0 : List Addr) (H0 : Hp) : Prop := SrcOk W s J m0 H0

section
variable (W : Wd) (C : Cfg) (xw : WX)
def rdE (e : E) : TE := fun σ H Q => ∃ m h ρ, RelH W.K W.T m H h ∧ RelS W.K m H ρ σ ∧ Post W xw σ m H (GT W H) (evE C e ρ h) Q
def rdEs (es : Es) : TA := fun σ H Q => ∃ m h ρ, RelH W.K W.T m H h ∧ RelS W.K m H ρ σ ∧ Post W xw σ m H (GTs W H) (evEs C es ρ h) Q
def rdO (e : Op) : TO := fun σ H Q => ∃ m h ρ, RelH W.K W.T m H h ∧ RelS W.K m H ρ σ ∧ Post W xw σ m H GI (evO C e ρ h) Q
def tstR (r : R Tm) : R Bool := r.bind fun x h1 => (match truT x h1 with | some b => .ok b h1 | none => .err)
def rdT (e : E) : TT := fun σ H Q => ∃ m h ρ, RelH W.K W.T m H h ∧ RelS W.K m H ρ σ ∧ Post W xw σ m H GI (tstR (evE C e ρ h)) Q
def rdC (e : Op) : TT := fun σ H Q => ∃ m h ρ, RelH W.K W.T m H h ∧ RelS W.K m H ρ σ ∧ Post W xw σ m H GI (evC C e ρ h) Q
def rdI (e : It) : TI := fun σ H R => ∃ m h ρ, RelH W.K W.T m H h ∧ RelS W.K m H ρ σ ∧ Post W xw σ m H (GS W) (evI C e ρ h) R
end

theorem pe_mono {X : Cx} {e : Expr} {t u : TE} (h : PE X e t) (k : ∀ σ H Q, u σ H Q → t σ H Q) : PE X e u := ⟨fun pins s σ H Q I q => h.run pins s σ H Q I (k σ H Q q)⟩
theorem pt_mono {X : Cx} {e : Expr} {t u : TT} (h : PT X e t) (k : ∀ σ H Q, u σ H Q → t σ H Q) : PT X e u := ⟨fun pins s σ H Q I q => h.run pins s σ H Q I (k σ H Q q)⟩
theorem pw_mono {X : Cx} {e : Expr} {t u : TT} (h : PW X e t) (k : ∀ σ H Q, u σ H Q → t σ H Q) : PW X e u := ⟨fun wh pins s σ H Q I q => h.run wh pins s σ H Q I (k σ H Q q)⟩
theorem pa_mono {X : Cx} {e : List Expr} {t u : TA} (h : PA X e t) (k : ∀ σ H Q, u σ H Q → t σ H Q) : PA X e u := ⟨fun pos pins s σ H Q I q => h.run pos pins s σ H Q I (k σ H Q q)⟩
theorem po_mono {X : Cx} {e : Option Expr} {t u : TO} (h : PO X e t) (k : ∀ σ H Q, u σ H Q → t σ H Q) : PO X e u := ⟨fun pins s σ H Q I q => h.run pins s σ H Q I (k σ H Q q)⟩

section
variable {W : Wd} {C : Cfg} {N fns : List Str} {lev : Nat} {sc : Scope} {X : Cx} {xw : WX} {σ : L2.St} {m m1 : List Addr} {H H1 : Hp} {h h1 : AH}

/-- what is behind a first part is read at its own place -/
theorem rdE_of {e : E} {ρ : Sl} {Q : VK} (x : Ext [] m H m1 H1) (r : RelH W.K W.T m1 H1 h1) (s : RelS W.K m H ρ σ) (p : Post W xw σ m H (GT W H) (evE C e ρ h1) Q) : rdE W C xw e σ H1 Q := ⟨m1, h1, ρ, r, x.rels s, post_reT p x⟩

theorem slotOf_ok {N : List Str} {x : Str} {i : Nat} (h : slotOf N x = some i) : N[i]? = some x := by
  unfold slotOf at h
  by_cases c : N[N.findIdx (· == x)]? = some x
  · rw [if_pos c] at h
    cases h
    exact c
  · rw [if_neg c] at h; cases h
theorem okName_ok {x : Str} (h : okName x = true) : (x == ("__debug__" : Str)) = false ∧ (x == ("__classdict__" : Str)) = false := by
  unfold okName at h
  simp only [Bool.and_eq_true, Bool.not_eq_true'] at h
  exact h

/-! ### names -/
theorem snd_var {i : Nat} {x : Str} {pos : Pos} (O : Ok W C N fns lev sc X xw) (hi : N[i]? = some x) (hv : Vis sc x) (hn : okName x = true) : PE X (.Name x pos) (rdE W C xw (.var i)) := by
  obtain ⟨h1, h2⟩ := okName_ok hn
  refine pe_mono (pe_var (i := i) (by rw [O.hN]; exact hi) (by rw [O.hsc]; exact hv) h1 h2) fun σ H Q h => ?_
  obtain ⟨m, h, ρ, r, s, p⟩ := h
  have p' : Post W xw σ m H (GT W H) (match ρ[i]? with | some (some x) => .ok (.d x) h | _ => .err) Q := p
  cases e : ρ[i]? with
  | none => rw [e] at p'; exact p'.elim
  | some o =>
    cases o with
    | none => rw [e] at p'; exact p'.elim
    | some d =>
      rw [e] at p'
      obtain ⟨v, e1, q⟩ := s.2 i d e
      exact ⟨v, e1, post_d p' r q⟩
theorem snd_glob {x : Str} {pos : Pos} (O : Ok W C N fns lev sc X xw) (hg : sc.names.lookup x = some .globalImplicit) (hn : okName x = true) : PE X (.Name x pos) (rdE W C xw (.glob x)) := by
  refine ⟨fun pins s σ H Q I h => ?_⟩
  obtain ⟨m, h, ρ, r, s', p⟩ := h
  have p' : Post W xw σ m H (GT W H) (match C.glob x with | some d => .ok (.d d) h | none => .err) Q := p
  cases e : C.glob x with
  | none => rw [e] at p'; exact p'.elim
  | some d =>
    rw [e] at p'
    obtain ⟨u, v, e1, rv, q⟩ := O.glob x d e
    exact ld_glob I (show X.env.scope.names.lookup x = _ by rw [O.hsc]; exact hg) e1 ⟨v, H, I, rv, post_d p' r (q m H)⟩ (okName_ok hn).1

/-! ### operators -/
theorem snd_bin {op : Operator} {a b : Expr} {x y : E} {pos : Pos} (O : Ok W C N fns lev sc X xw) (ha : PE X a (rdE W C xw x)) (hb : PE X b (rdE W C xw y)) : PE X (.BinOp a op b pos) (rdE W C xw (.bin op x y)) := by
  obtain ⟨r, ho, hr⟩ := bin_ok (W := W) O.hK op
  refine pe_mono (pe_op ho ha hb) fun σ H Q h => ?_
  obtain ⟨m, h, ρ, rh, s, p⟩ := h
  refine ⟨m, h, ρ, rh, s, ?_⟩
  refine post_mono (post_bind (G := GT W H) p) fun v H1 hh => ?_
  obtain ⟨m1, h1, t, x1, r1, g1, p1⟩ := hh
  refine ⟨m1, h1, ρ, r1, x1.rels s, ?_⟩
  refine post_mono (post_bind (G := GT W H1) (post_reT p1 x1)) fun w H2 hh => ?_
  obtain ⟨m2, h2, u, x2, r2, g2, p2⟩ := hh
  obtain ⟨F, q1, _⟩ := g1
  obtain ⟨G, q2, _⟩ := g2
  exact hr xw σ m2 H2 h2 t u v w F G Q r2 (q1.ext x2) q2 (post_reT p2 x2)
/-- two operands, then what hangs on both -/
theorem two_then {a b : E} {f : Tm → Tm → AH → R Tm} {Q : VK} {r : V → V → Hp → Prop} {ρ : Sl} (rh : RelH W.K W.T m H h) (s : RelS W.K m H ρ σ)
    (p : Post W xw σ m H (GT W H) ((evE C a ρ h).bind fun x h1 => (evE C b ρ h1).bind fun y h2 => f x y h2) Q)
    (k : ∀ m2 H2 h2 t u v w F G, RelH W.K W.T m2 H2 h2 → RelS W.K m2 H2 ρ σ → RepT W.K m2 H2 t v F → RepT W.K m2 H2 u w G → Post W xw σ m2 H2 (GT W H2) (f t u h2) Q → r v w H2) :
    rdE W C xw a σ H fun v H1 => rdE W C xw b σ H1 fun w H2 => r v w H2 := by
  refine ⟨m, h, ρ, rh, s, ?_⟩
  refine post_mono (post_bind (G := GT W H) p) fun v H1 hh => ?_
  obtain ⟨m1, h1, t, x1, r1, g1, p1⟩ := hh
  refine ⟨m1, h1, ρ, r1, x1.rels s, ?_⟩
  refine post_mono (post_bind (G := GT W H1) (post_reT p1 x1)) fun w H2 hh => ?_
  obtain ⟨m2, h2, u, x2, r2, g2, p2⟩ := hh
  obtain ⟨F, q1, _⟩ := g1
  obtain ⟨G, q2, _⟩ := g2
  exact k m2 H2 h2 t u v w F G r2 ((x1.trans0 x2).rels s) (q1.ext x2) q2 (post_reT p2 x2)
/-- one operand -/
theorem one_then {β : Type} {G2 : Hp → Tm → β → List Addr → Hp → Prop} {a : E} {f : Tm → AH → R Tm} {Q : VK} {r : V → Hp → Prop} {ρ : Sl} (rh : RelH W.K W.T m H h) (s : RelS W.K m H ρ σ)
    (p : Post W xw σ m H (GT W H) ((evE C a ρ h).bind fun x h1 => f x h1) Q)
    (k : ∀ m2 H2 h2 t v F, Ext [] m H m2 H2 → RelH W.K W.T m2 H2 h2 → RelS W.K m2 H2 ρ σ → RepT W.K m2 H2 t v F → (∀ a ∈ F, H a = none) → Post W xw σ m H (GT W H) (f t h2) Q → r v H2) :
    rdE W C xw a σ H fun v H1 => r v H1 := by
  refine ⟨m, h, ρ, rh, s, ?_⟩
  refine post_mono (post_bind (G := GT W H) p) fun v H1 hh => ?_
  obtain ⟨m1, h1, t, x1, r1, g1, p1⟩ := hh
  obtain ⟨F, q1, fr⟩ := g1
  exact k m1 H1 h1 t v F x1 r1 (x1.rels s) q1 fr p1
theorem cmpR_ok {op : CmpOp} {t u : Tm} {Q : VK} {r : Hp → Prop} (p : Post W xw σ m H (GT W H) (cmpR op t u h) Q) (rh : RelH W.K W.T m H h) : ∃ k, cmpT op t u h = some k ∧ Q (.bl k) H := by
  unfold cmpR at p
  cases e : cmpT op t u h with
  | none => rw [e] at p; exact p.elim
  | some k => rw [e] at p; exact ⟨k, rfl, post_d p rh (.bl k)⟩
theorem unitsOk (O : Ok W C N fns lev sc X xw) : X.A.units + 64 < cLine := O.room.units
theorem snd_cmp {op : CmpOp} {a b : Expr} {x y : E} {pos : Pos} (O : Ok W C N fns lev sc X xw) (ha : PE X a (rdE W C xw x)) (hb : PE X b (rdE W C xw y)) (hm : behindInMarks op b = false) : PE X (.Compare a [op] [b] pos) (rdE W C xw (.cmp op x y)) := by
  obtain ⟨r, ho, hr⟩ := cmp_ok (W := W) O.hK (unitsOk O) op
  refine pe_mono (pe_cmpR ho ha hb hm) fun σ H Q h => ?_
  obtain ⟨m, h, ρ, rh, s, p⟩ := h
  refine two_then rh s p fun m2 H2 h2 t u v w F G r2 _ q1 q2 p2 => ?_
  obtain ⟨k, e, q⟩ := cmpR_ok (r := fun _ => True) p2 r2
  exact hr m2 H2 h2 t u v w F G Q k r2 q1 q2 e q
/-- a test's value -/
theorem tst_ok {t : Tm} {Q : Bool → Hp → Prop} (p : Post W xw σ m H GI (tstR (.ok t h)) Q) (rh : RelH W.K W.T m H h) : ∃ k, truT t h = some k ∧ Q k H := by
  have p' : Post W xw σ m H GI (match truT t h with | some b => .ok b h | none => .err) Q := p
  cases e : truT t h with
  | none => rw [e] at p'; exact p'.elim
  | some k => rw [e] at p'; exact ⟨k, rfl, post_at p' rh rfl⟩
theorem snt_cmp {op : CmpOp} {a b : Expr} {x y : E} {pos : Pos} (O : Ok W C N fns lev sc X xw) (ha : PE X a (rdE W C xw x)) (hb : PE X b (rdE W C xw y)) (hm : behindInMarks op b = false) : PT X (.Compare a [op] [b] pos) (rdT W C xw (.cmp op x y)) := by
  obtain ⟨r, ho, hr⟩ := cmp_ok (W := W) O.hK (unitsOk O) op
  refine pt_mono (pt_cmpR ho ha hb hm) fun σ H Q h => ?_
  obtain ⟨m, h, ρ, rh, s, p⟩ := h
  have p' : Post W xw σ m H GI ((evE C x ρ h).bind fun x h1 => (evE C y ρ h1).bind fun y h2 => tstR (cmpR op x y h2)) Q := by
    have e : tstR (evE C (.cmp op x y) ρ h) = (evE C x ρ h).bind fun x h1 => (evE C y ρ h1).bind fun y h2 => tstR (cmpR op x y h2) := by
      show tstR ((evE C x ρ h).bind fun x h1 => (evE C y ρ h1).bind fun y h2 => cmpR op x y h2) = _
      unfold tstR
      cases evE C x ρ h with
      | ok a h1 => simp only [R.bind_ok]; cases evE C y ρ h1 <;> rfl
      | exc c w h1 => rfl
      | err => rfl
    rw [← e]; exact p
  refine ⟨m, h, ρ, rh, s, ?_⟩
  refine post_mono (post_bind (G := GT W H) p') fun v H1 hh => ?_
  obtain ⟨m1, h1, t, x1, r1, g1, p1⟩ := hh
  refine ⟨m1, h1, ρ, r1, x1.rels s, ?_⟩
  refine post_mono (post_bind (G := GT W H1) (post_re p1 x1 (G' := GI) fun _ _ _ _ g => g)) fun w H2 hh => ?_
  obtain ⟨m2, h2, u, x2, r2, g2, p2⟩ := hh
  obtain ⟨F, q1, _⟩ := g1
  obtain ⟨G, q2, _⟩ := g2
  have p3 := post_re p2 x2 (G' := GI) fun _ _ _ _ g => g
  unfold cmpR at p3
  cases e : cmpT op t u h2 with
  | none => rw [e] at p3; exact p3.elim
  | some k =>
    rw [e] at p3
    obtain ⟨k', e1, q⟩ := tst_ok p3 r2
    cases e1
    exact hr m2 H2 h2 t u v w F G _ k r2 (q1.ext x2) q2 e ⟨k, rfl, q⟩
theorem snd_not {a : Expr} {x : E} {pos : Pos} (O : Ok W C N fns lev sc X xw) (ha : PE X a (rdE W C xw x)) : PE X (.UnaryOp .Not a pos) (rdE W C xw (.not x)) := by
  refine pe_mono (pe_notT ha) fun σ H Q h => ?_
  obtain ⟨m, h, ρ, rh, s, p⟩ := h
  refine one_then (β := V) (G2 := fun _ _ _ _ _ => True) rh s p fun m2 H2 h2 t v F x2 r2 _ q1 _ p2 => ?_
  have p3 := post_reT p2 x2
  cases e : truT t h2 with
  | none => rw [e] at p3; exact p3.elim
  | some k => rw [e] at p3; exact ⟨k, tru_of X.K O.hK r2 q1 e, post_d p3 r2 (.bl _)⟩
theorem snd_neg {a : Expr} {x : E} {pos : Pos} (O : Ok W C N fns lev sc X xw) (ha : PE X a (rdE W C xw x)) : PE X (.UnaryOp .USub a pos) (rdE W C xw (.neg x)) := by
  refine pe_mono (pe_un un_neg ha) fun σ H Q h => ?_
  obtain ⟨m, h, ρ, rh, s, p⟩ := h
  refine one_then (β := V) (G2 := fun _ _ _ _ _ => True) rh s p fun m2 H2 h2 t v F x2 r2 _ q1 _ p2 => ?_
  have p3 := post_reT p2 x2
  split at p3
  · rw [q1.int]
    exact ⟨_, rfl, post_d p3 r2 (.int _)⟩
  · exact p3.elim
theorem snd_isin {a : Expr} {x : E} {pos p1 p2 : Pos} {ty : Str} {T : String} (O : Ok W C N fns lev sc X xw) (ha : PE X a (rdE W C xw x)) (hs : sc.names.lookup ("isinstance" : Str) = some .globalImplicit) (ht : sc.names.lookup ty = some .globalImplicit) (hty : ty ∈ tyNames)
    (hT : bootBuiltins ty = some (.type T)) (hn : ty ≠ "__name__") (hd : (ty == ("__debug__" : Str)) = false)
    (st : starEach [a, .Name ty p2] X.env = (false, eval a X.env) :: starEach [.Name ty p2] X.env) : PE X (.Call (.Name "isinstance" p1) [a, .Name ty p2] [] pos) (rdE W C xw (.isin x T)) := by
  have hb : PE X (.Name ty p2) (fun _ H Q => Q (.ty T) H) := ⟨fun pins s σ H Q I h => ld_blt I (show X.env.scope.names.lookup ty = _ by rw [O.hsc]; exact ht) (O.blt ty (.inr (.inr (.inr hty)))) hT ⟨.ty T, H, I, rfl, h⟩ hn hd⟩
  refine pe_mono (pe_callB call_isi (show X.env.scope.names.lookup _ = _ by rw [O.hsc]; exact hs) (O.blt "isinstance" (.inr (.inr (.inl rfl)))) (by decide +kernel) (pa_cons ha (pa_cons hb pa_nil) st) (by decide +kernel) (by decide +kernel) st rfl) fun σ H Q h => ?_
  obtain ⟨m, h, ρ, rh, s, p⟩ := h
  refine one_then (β := V) (G2 := fun _ _ _ _ _ => True) rh s p fun m2 H2 h2 t v F x2 r2 _ q1 _ p2 => ?_
  have p3 := post_reT p2 x2
  cases e : isT t T h2 with
  | none => rw [e] at p3; exact p3.elim
  | some k =>
    rw [e] at p3
    have q := post_d p3 r2 (.bl k)
    unfold isT at e
    cases e1 : tyT t h2 with
    | none => rw [e1] at e; cases e
    | some a1 =>
      rw [e1] at e
      have e : kitB a1 T = some k := e
      refine ⟨v, .ty T, .type a1, .type T, k, rfl, .ty T, ?_, kit_ty e, q⟩
      rw [O.hK]
      unfold tyT at e1
      split at e1
      · cases e1; rw [q1.non]; exact .base .non
      · cases e1; rw [q1.bl]; exact .base (.bl _)
      · cases e1; rw [q1.int]; exact .base (.int _)
      · cases e1; rw [q1.str]; exact .base (.str _)
      · cases e1
        obtain ⟨b, vs, rfl, (z | ⟨o, z⟩) | ⟨o, its, n, hk, hc, _⟩, _⟩ := q1.tup
        · exact .base (.tup z)
        · exact .fTuple z
        · exact .kTuple hk hc
      · cases e2 : viewL t h2 with
        | none => rw [e2] at e1; cases e1
        | some ds =>
          rw [e2] at e1
          cases e1
          obtain ⟨b, vs, rfl, (z | ⟨o, z⟩) | ⟨o, its, n, hk, hc, _⟩, _⟩ := q1.viewL r2 e2
          · exact .base (.lst z)
          · exact .base (.frz z)
          · exact .kList hk hc
end
end Mill

set_option Elab.async false
set_option linter.all false
set_option maxRecDepth 100000
set_option maxHeartbeats 4000000
/-! Mill8: further expressions. -/
namespace Mill
open PySem PySem.Spec PyProof.Rows L2
section
variable {W : Wd} {C : Cfg} {N fns : List Str} {lev : Nat} {sc : Scope} {X : Cx} {xw : WX} {σ : L2.St} {m m1 : List Addr} {H H1 : Hp} {h h1 : AH}

theorem tstR_bind (r : R Tm) (f : Tm → AH → R Tm) : tstR (r.bind f) = r.bind fun x h => tstR (f x h) := by cases r <;> rfl
/-- a test is a value's truth -/
theorem snt_plain {a : Expr} {x : E} (O : Ok W C N fns lev sc X xw) (ha : PE X a (rdE W C xw x)) (he : ∀ whole, isTrue a X.env whole = (do let v ← whole; standAt a.pos; holding [v] (truthy v))) : PT X a (rdT W C xw x) := by
  refine pt_mono (pt_truth ha he) fun σ H Q h => ?_
  obtain ⟨m, h, ρ, rh, s, p⟩ := h
  refine ⟨m, h, ρ, rh, s, ?_⟩
  refine post_mono (post_bind (G := GT W H) p) fun v H1 hh => ?_
  obtain ⟨m1, h1, t, x1, r1, ⟨F, q1, _⟩, p1⟩ := hh
  obtain ⟨k, e, q⟩ := tst_ok (post_re p1 x1 (G' := GI) fun _ _ _ _ g => g) r1
  exact ⟨k, tru_of X.K O.hK r1 q1 e, q⟩
theorem snt_not {a : Expr} {x : E} {pos : Pos} (ha : PT X a (rdT W C xw x)) : PT X (.UnaryOp .Not a pos) (rdT W C xw (.not x)) := by
  refine pt_mono (pt_not ha) fun σ H Q h => ?_
  obtain ⟨m, h, ρ, rh, s, p⟩ := h
  refine ⟨m, h, ρ, rh, s, ?_⟩
  have e : tstR (evE C (.not x) ρ h) = (tstR (evE C x ρ h)).bind fun b h1 => .ok (!b) h1 := by
    show tstR ((evE C x ρ h).bind fun x h1 => (match truT x h1 with | some b => .ok (.d (.bl (!b))) h1 | none => .err)) = _
    unfold tstR
    cases evE C x ρ h with
    | ok t h1 =>
      simp only [R.bind_ok]
      cases truT t h1 <;> rfl
    | exc c w h1 => rfl
    | err => rfl
  rw [e] at p
  refine post_mono (post_bind (G := GI) p) fun b H1 hh => ?_
  obtain ⟨m1, h1, t, x1, r1, rfl, p1⟩ := hh
  exact post_at (post_re p1 x1 (G' := GI) fun _ _ _ _ g => g) r1 rfl

/-! ### and, or -/
theorem snd_and2 {a b : Expr} {rest : List Expr} {x y : E} {pos : Pos} (O : Ok W C N fns lev sc X xw) (ha : PE X a (rdE W C xw x)) (hb : PE X (.BoolOp .And (b :: rest) pos) (rdE W C xw y)) : PE X (.BoolOp .And (a :: b :: rest) pos) (rdE W C xw (.and x y)) := by
  refine pe_mono (pe_andT ha hb) fun σ H Q h => ?_
  obtain ⟨m, h, ρ, rh, s, p⟩ := h
  refine one_then (β := V) (G2 := fun _ _ _ _ _ => True) rh s p fun m2 H2 h2 t v F x2 r2 s2 q1 fr p2 => ?_
  cases e : truT t h2 with
  | none => rw [e] at p2; exact p2.elim
  | some k =>
    rw [e] at p2
    refine ⟨k, tru_of X.K O.hK r2 q1 e, ?_⟩
    cases k with
    | true => exact ⟨m2, h2, ρ, r2, s2, post_reT p2 x2⟩
    | false => exact p2 m2 H2 v x2 r2 ⟨F, q1, fr⟩
theorem snd_or2 {a b : Expr} {rest : List Expr} {x y : E} {pos : Pos} (O : Ok W C N fns lev sc X xw) (ha : PE X a (rdE W C xw x)) (hb : PE X (.BoolOp .Or (b :: rest) pos) (rdE W C xw y)) : PE X (.BoolOp .Or (a :: b :: rest) pos) (rdE W C xw (.or x y)) := by
  refine pe_mono (pe_orT ha hb) fun σ H Q h => ?_
  obtain ⟨m, h, ρ, rh, s, p⟩ := h
  refine one_then (β := V) (G2 := fun _ _ _ _ _ => True) rh s p fun m2 H2 h2 t v F x2 r2 s2 q1 fr p2 => ?_
  cases e : truT t h2 with
  | none => rw [e] at p2; exact p2.elim
  | some k =>
    rw [e] at p2
    refine ⟨k, tru_of X.K O.hK r2 q1 e, ?_⟩
    cases k with
    | false => exact ⟨m2, h2, ρ, r2, s2, post_reT p2 x2⟩
    | true => exact p2 m2 H2 v x2 r2 ⟨F, q1, fr⟩
theorem tst_and (x y : E) (ρ : Sl) (h : AH) : tstR (evE C (.and x y) ρ h) = (tstR (evE C x ρ h)).bind fun b h1 => if b = true then tstR (evE C y ρ h1) else .ok false h1 := by
  show tstR ((evE C x ρ h).bind fun x h1 => (match truT x h1 with | some true => evE C y ρ h1 | some false => .ok x h1 | none => .err)) = _
  rw [tstR_bind]
  unfold tstR
  cases evE C x ρ h with
  | ok t h1 =>
    simp only [R.bind_ok]
    cases e : truT t h1 with
    | none => rfl
    | some k => cases k <;> simp [R.bind, e]
  | exc c w h1 => rfl
  | err => rfl
theorem tst_or (x y : E) (ρ : Sl) (h : AH) : tstR (evE C (.or x y) ρ h) = (tstR (evE C x ρ h)).bind fun b h1 => if b = true then .ok true h1 else tstR (evE C y ρ h1) := by
  show tstR ((evE C x ρ h).bind fun x h1 => (match truT x h1 with | some true => .ok x h1 | some false => evE C y ρ h1 | none => .err)) = _
  rw [tstR_bind]
  unfold tstR
  cases evE C x ρ h with
  | ok t h1 =>
    simp only [R.bind_ok]
    cases e : truT t h1 with
    | none => rfl
    | some k => cases k <;> simp [R.bind, e]
  | exc c w h1 => rfl
  | err => rfl
theorem snt_and2 {a b : Expr} {rest : List Expr} {x y : E} {pos : Pos} (ha : PT X a (rdT W C xw x)) (hb : PW X (.BoolOp .And (b :: rest) pos) (rdT W C xw y)) : PW X (.BoolOp .And (a :: b :: rest) pos) (rdT W C xw (.and x y)) := by
  refine pw_mono (pw_and ha hb) fun σ H Q h => ?_
  obtain ⟨m, h, ρ, rh, s, p⟩ := h
  rw [tst_and] at p
  refine ⟨m, h, ρ, rh, s, ?_⟩
  refine post_mono (post_bind (G := GI) p) fun b H1 hh => ?_
  obtain ⟨m1, h1, t, x1, r1, rfl, p1⟩ := hh
  have p2 := post_re p1 x1 (G' := GI) fun _ _ _ _ g => g
  cases b with
  | true => exact ⟨m1, h1, ρ, r1, x1.rels s, p2⟩
  | false => exact post_at p2 r1 rfl
theorem snt_or2 {a b : Expr} {rest : List Expr} {x y : E} {pos : Pos} (ha : PT X a (rdT W C xw x)) (hb : PW X (.BoolOp .Or (b :: rest) pos) (rdT W C xw y)) : PW X (.BoolOp .Or (a :: b :: rest) pos) (rdT W C xw (.or x y)) := by
  refine pw_mono (pw_or ha hb) fun σ H Q h => ?_
  obtain ⟨m, h, ρ, rh, s, p⟩ := h
  rw [tst_or] at p
  refine ⟨m, h, ρ, rh, s, ?_⟩
  refine post_mono (post_bind (G := GI) p) fun b H1 hh => ?_
  obtain ⟨m1, h1, t, x1, r1, rfl, p1⟩ := hh
  have p2 := post_re p1 x1 (G' := GI) fun _ _ _ _ g => g
  cases b with
  | true => exact post_at p2 r1 rfl
  | false => exact ⟨m1, h1, ρ, r1, x1.rels s, p2⟩
theorem snd_ands {f : Expr → Option E} {pos : Pos} (O : Ok W C N fns lev sc X xw) (hf : ∀ a x, f a = some x → PE X a (rdE W C xw x)) : ∀ (vs : List Expr) (x : E), ofBool f .and vs = some x → PE X (.BoolOp .And vs pos) (rdE W C xw x)
  | [], x, e => by cases e
  | [a], x, e => pe_one (hf a x e)
  | a :: b :: rest, x, e => by
    replace e : (match f a, ofBool f .and (b :: rest) with | some x, some y => some (E.and x y) | _, _ => none) = some x := e
    cases e1 : f a with
    | none => rw [e1] at e; cases e
    | some y =>
      cases e2 : ofBool f .and (b :: rest) with
      | none => rw [e1, e2] at e; cases e
      | some z =>
        rw [e1, e2] at e
        cases e
        exact snd_and2 O (hf a y e1) (snd_ands O hf (b :: rest) z e2)
theorem snd_ors {f : Expr → Option E} {pos : Pos} (O : Ok W C N fns lev sc X xw) (hf : ∀ a x, f a = some x → PE X a (rdE W C xw x)) : ∀ (vs : List Expr) (x : E), ofBool f .or vs = some x → PE X (.BoolOp .Or vs pos) (rdE W C xw x)
  | [], x, e => by cases e
  | [a], x, e => pe_one (hf a x e)
  | a :: b :: rest, x, e => by
    replace e : (match f a, ofBool f .or (b :: rest) with | some x, some y => some (E.or x y) | _, _ => none) = some x := e
    cases e1 : f a with
    | none => rw [e1] at e; cases e
    | some y =>
      cases e2 : ofBool f .or (b :: rest) with
      | none => rw [e1, e2] at e; cases e
      | some z =>
        rw [e1, e2] at e
        cases e
        exact snd_or2 O (hf a y e1) (snd_ors O hf (b :: rest) z e2)
theorem snt_ands {f : Expr → Option E} {pos : Pos} (hf : ∀ a x, f a = some x → PT X a (rdT W C xw x)) : ∀ (vs : List Expr) (x : E), ofBool f .and vs = some x → PW X (.BoolOp .And vs pos) (rdT W C xw x)
  | [], x, e => by cases e
  | [a], x, e => pw_and1 (hf a x e)
  | a :: b :: rest, x, e => by
    replace e : (match f a, ofBool f .and (b :: rest) with | some x, some y => some (E.and x y) | _, _ => none) = some x := e
    cases e1 : f a with
    | none => rw [e1] at e; cases e
    | some y =>
      cases e2 : ofBool f .and (b :: rest) with
      | none => rw [e1, e2] at e; cases e
      | some z =>
        rw [e1, e2] at e
        cases e
        exact snt_and2 (hf a y e1) (snt_ands hf (b :: rest) z e2)
theorem snt_ors {f : Expr → Option E} {pos : Pos} (hf : ∀ a x, f a = some x → PT X a (rdT W C xw x)) : ∀ (vs : List Expr) (x : E), ofBool f .or vs = some x → PW X (.BoolOp .Or vs pos) (rdT W C xw x)
  | [], x, e => by cases e
  | [a], x, e => pw_or1 (hf a x e)
  | a :: b :: rest, x, e => by
    replace e : (match f a, ofBool f .or (b :: rest) with | some x, some y => some (E.or x y) | _, _ => none) = some x := e
    cases e1 : f a with
    | none => rw [e1] at e; cases e
    | some y =>
      cases e2 : ofBool f .or (b :: rest) with
      | none => rw [e1, e2] at e; cases e
      | some z =>
        rw [e1, e2] at e
        cases e
        exact snt_or2 (hf a y e1) (snt_ors hf (b :: rest) z e2)

/-! ### a if c else b; chains -/
theorem snd_ife {c a b : Expr} {z x y : E} {pos : Pos} (hc : PT X c (rdT W C xw z)) (ha : PE X a (rdE W C xw x)) (hb : PE X b (rdE W C xw y)) : PE X (.IfExp c a b pos) (rdE W C xw (.ife z x y)) := by
  refine pe_mono (pe_ifExp hc ha hb) fun σ H Q h => ?_
  obtain ⟨m, h, ρ, rh, s, p⟩ := h
  refine ⟨m, h, ρ, rh, s, ?_⟩
  have e : evE C (.ife z x y) ρ h = (tstR (evE C z ρ h)).bind fun b h1 => if b = true then evE C x ρ h1 else evE C y ρ h1 := by
    show ((evE C z ρ h).bind fun t h1 => (match truT t h1 with | some true => evE C x ρ h1 | some false => evE C y ρ h1 | none => .err)) = _
    unfold tstR
    cases evE C z ρ h with
    | ok t h1 =>
      simp only [R.bind_ok]
      cases truT t h1 with
      | none => rfl
      | some k => cases k <;> rfl
    | exc c w h1 => rfl
    | err => rfl
  rw [e] at p
  refine post_mono (post_bind (G := GI) p) fun b H1 hh => ?_
  obtain ⟨m1, h1, t, x1, r1, rfl, p1⟩ := hh
  have p2 := post_reT p1 x1
  cases b with
  | true => exact ⟨m1, h1, ρ, r1, x1.rels s, p2⟩
  | false => exact ⟨m1, h1, ρ, r1, x1.rels s, p2⟩
theorem snd_chn {o1 o2 : CmpOp} {a b c : Expr} {x y z : E} {pos : Pos} (O : Ok W C N fns lev sc X xw) (ha : PE X a (rdE W C xw x)) (hb : PE X b (rdE W C xw y)) (hc : PE X c (rdE W C xw z))
    (hk : ∀ {r r' : R2}, OpR X (compareOp o1) r → OpR X (compareOp o2) r' → PE X (.Compare a [o1, o2] [b, c] pos) (tChain r r' (rdE W C xw x) (rdE W C xw y) (rdE W C xw z))) : PE X (.Compare a [o1, o2] [b, c] pos) (rdE W C xw (.chn o1 o2 x y z)) := by
  obtain ⟨r, ho, hr⟩ := cmp_ok (W := W) O.hK (unitsOk O) o1
  obtain ⟨r', ho', hr'⟩ := cmp_ok (W := W) O.hK (unitsOk O) o2
  refine pe_mono (hk ho ho') fun σ H Q h => ?_
  obtain ⟨m, h, ρ, rh, s, p⟩ := h
  refine two_then rh s p fun m2 H2 h2 t u v w F G r2 s2 q1 q2 p2 => ?_
  unfold cmpR at p2
  cases e : cmpT o1 t u h2 with
  | none => rw [e] at p2; exact p2.elim
  | some k =>
    rw [e] at p2
    refine hr m2 H2 h2 t u v w F G _ k r2 q1 q2 e ⟨k, rfl, ?_⟩
    cases k with
    | false => exact post_d p2 r2 (.bl false)
    | true =>
      refine one_then (β := V) (G2 := fun _ _ _ _ _ => True) r2 s2 p2 fun m3 H3 h3 t3 v3 F3 x3 r3 s3 q3 _ p3 => ?_
      obtain ⟨k', e', q⟩ := cmpR_ok (r := fun _ => True) (post_reT p3 x3) r3
      exact hr' m3 H3 h3 u t3 w v3 G F3 Q k' r3 (q2.ext x3) q3 e' q

/-! ### arguments, displays -/
theorem snd_nil : PA X [] (rdEs W C xw .nil) := by
  refine pa_mono pa_nil fun σ H Q h => ?_
  obtain ⟨m, h, ρ, rh, s, p⟩ := h
  exact post_at (G := GTs W H) p rh ⟨[], .nil, fun _ z => absurd z (by simp)⟩
theorem snd_cons {a : Expr} {as : List Expr} {x : E} {xs : Es} (ha : PE X a (rdE W C xw x)) (hs : PA X as (rdEs W C xw xs)) (st : starEach (a :: as) X.env = (false, eval a X.env) :: starEach as X.env) : PA X (a :: as) (rdEs W C xw (.cons x xs)) := by
  refine pa_mono (pa_cons ha hs st) fun σ H Q h => ?_
  obtain ⟨m, h, ρ, rh, s, p⟩ := h
  refine ⟨m, h, ρ, rh, s, ?_⟩
  refine post_mono (post_bind (G := GT W H) (G2 := GTs W H) p) fun v H1 hh => ?_
  obtain ⟨m1, h1, t, x1, r1, ⟨F, q1, f1⟩, p1⟩ := hh
  refine ⟨m1, h1, ρ, r1, x1.rels s, ?_⟩
  have p1' : Post W xw σ m1 H1 (fun (ts : List Tm) (vs : List V) m2 H2 => ∃ G, RepTs W.K m2 H2 ts vs G ∧ (∀ a ∈ G, H a = none) ) ((evEs C xs ρ h1).bind fun ts h2 => .ok (t :: ts) h2) Q := post_re p1 x1 fun a b m2 H2 g => g
  refine post_mono (post_bind (G := GTs W H1) p1') fun vs H2 hh => ?_
  obtain ⟨m2, h2, ts, x2, r2, ⟨G, q2, f2⟩, p2⟩ := hh
  refine p2 m2 H2 (v :: vs) x2 r2 ⟨F ++ G, .cons (q1.ext x2) q2 fun a ha hg => ?_, fun a ha => ?_⟩
  · exact (RepT.free (F := []) (m' := m1) (H' := H1) Ext.refl q1 a ha) (f2 a hg)
  · rcases List.mem_append.mp ha with ha | ha
    · exact f1 a ha
    · exact x1.dom a (f2 a ha)
theorem snd_tup {es : List Expr} {k : Nat} {xs : Es} {pos : Pos} (he : PA X es (rdEs W C xw xs)) : PE X (.Tuple es k pos) (rdE W C xw (.tup xs)) := by
  refine pe_mono (pe_tup he) fun σ H Q h => ?_
  obtain ⟨m, h, ρ, rh, s, p⟩ := h
  refine ⟨m, h, ρ, rh, s, ?_⟩
  refine post_mono (post_bind (G := GTs W H) p) fun vs H1 hh => ?_
  obtain ⟨m1, h1, ts, x1, r1, ⟨F, q1, f1⟩, p1⟩ := hh
  by_cases hz : ts.length ≤ sizeLine
  · rw [if_pos hz] at p1
    refine ⟨by rw [← q1.length]; exact hz, fun a ha => ?_⟩
    obtain ⟨r2, q2, x2⟩ := q1.name r1
    have x3 : Ext [] m H (m1 ++ F) H1 := x1.trans x2 fun a ha => .inl (f1 a ha)
    have x4 : Ext [] (m1 ++ F) H1 (m1 ++ F) (upd H1 a (.tup vs)) := Ext.new ha
    exact p1 _ _ _ (x3.trans0 x4) (r2.new ha) ⟨[], ⟨.tup (SqT.of upd_same) (x4.reps q2), rfl⟩, fun _ z => absurd z (by simp)⟩
  · rw [if_neg hz] at p1; exact p1.elim
theorem snd_lst {es : List Expr} {xs : Es} {pos : Pos} (he : PA X es (rdEs W C xw xs)) : PE X (.List es pos) (rdE W C xw (.lst xs)) := by
  refine pe_mono (pe_lst he) fun σ H Q h => ?_
  obtain ⟨m, h, ρ, rh, s, p⟩ := h
  refine ⟨m, h, ρ, rh, s, ?_⟩
  refine post_mono (post_bind (G := GTs W H) p) fun vs H1 hh => ?_
  obtain ⟨m1, h1, ts, x1, r1, ⟨F, q1, f1⟩, p1⟩ := hh
  by_cases hz : ts.length ≤ sizeLine
  · rw [if_pos hz] at p1
    refine ⟨by rw [← q1.length]; exact hz, fun a ha => ?_⟩
    obtain ⟨r2, q2, x2⟩ := q1.name r1
    have x3 : Ext [] m H (m1 ++ F) H1 := x1.trans x2 fun a ha => .inl (f1 a ha)
    have x4 : Ext [] (m1 ++ F) H1 (m1 ++ F) (upd H1 a (.lst vs)) := Ext.new ha
    refine p1 _ _ _ (x3.trans0 x4) (r2.new ha) ⟨[a], ⟨a, vs, rfl, upd_same, x4.reps q2, fun z => ?_, rfl⟩, fun b hb => ?_⟩
    · obtain ⟨ws, e⟩ := r2.isLst z
      rw [ha] at e; cases e
    · have : b = a := by simpa using hb
      subst this
      exact x1.dom b ha
  · rw [if_neg hz] at p1; exact p1.elim

/-! ### items, slices -/
theorem snd_ix {a b : Expr} {x y : E} {pos : Pos} (O : Ok W C N fns lev sc X xw) (ha : PE X a (rdE W C xw x)) (hb : PE X b (rdE W C xw y)) (hp : PlainIx b) : PE X (.Subscript a b pos) (rdE W C xw (.ix x y)) := by
  refine pe_mono (pe_ix ix_seq ha hb hp) fun σ H Q h => ?_
  obtain ⟨m, h, ρ, rh, s, p⟩ := h
  exact two_then rh s p fun m2 H2 h2 t u v w F G r2 s2 q1 q2 p2 => ix_ok X.K O.hK r2 q1 q2 p2
theorem snd_noO : PO X none (rdO W C xw .no) := by
  refine po_mono po_none fun σ H Q h => ?_
  obtain ⟨m, h, ρ, rh, s, p⟩ := h
  exact post_at (G := GI) p rh rfl
theorem snd_yesO {a : Expr} {x : E} (ha : PE X a (rdE W C xw x)) : PO X (some a) (rdO W C xw (.yes x)) := by
  refine po_mono (po_some ha) fun σ H Q h => ?_
  obtain ⟨m, h, ρ, rh, s, p⟩ := h
  refine ⟨m, h, ρ, rh, s, ?_⟩
  refine post_mono (post_bind (G := GT W H) p) fun v H1 hh => ?_
  obtain ⟨m1, h1, t, x1, r1, ⟨F, q1, f1⟩, p1⟩ := hh
  have p2 := post_re p1 x1 (G' := GI) fun _ _ _ _ g => g
  cases e : optI t with
  | none => rw [e] at p2; exact p2.elim
  | some i =>
    rw [e] at p2
    unfold optI at e
    split at e
    · cases e
      exact ⟨_, q1.int, post_at p2 r1 rfl⟩
    · cases e
theorem snd_sl {a : Expr} {lo hi : Option Expr} {x : E} {l u : Op} {pos p2 : Pos} (O : Ok W C N fns lev sc X xw) (ha : PE X a (rdE W C xw x)) (hl : PO X lo (rdO W C xw l)) (hu : PO X hi (rdO W C xw u)) : PE X (.Subscript a (.Slice lo hi none p2) pos) (rdE W C xw (.sl x l u)) := by
  refine pe_mono (pe_slice sl_any ha hl hu) fun σ H Q h => ?_
  obtain ⟨m, h, ρ, rh, s, p⟩ := h
  refine ⟨m, h, ρ, rh, s, ?_⟩
  refine post_mono (post_bind (G := GT W H) p) fun v H1 hh => ?_
  obtain ⟨m1, h1, t, x1, r1, ⟨F, q1, f1⟩, p1⟩ := hh
  refine ⟨m1, h1, ρ, r1, x1.rels s, ?_⟩
  refine post_mono (post_bind (G := GI) (post_reT p1 x1)) fun i H2 hh => ?_
  obtain ⟨m2, h2, j, x2, r2, rfl, p2⟩ := hh
  refine ⟨m2, h2, ρ, r2, (x1.trans0 x2).rels s, ?_⟩
  refine post_mono (post_bind (G := GI) (post_reT p2 x2)) fun i' H3 hh => ?_
  obtain ⟨m3, h3, j', x3, r3, rfl, p3⟩ := hh
  exact sl_ok X.K O.hK r3 (q1.ext (x2.trans0 x3)) (post_reT p3 x3)

/-! ### calls -/
theorem post_call {m0 : List Addr} {H0 : Hp} {t : R Tm} {F : List Addr} {Q : VK} (p : Post W xw σ m0 H0 (GT W H0) t Q) (x : Ext [] m0 H0 m H) (f : ∀ a ∈ F, H0 a = none) : PostC W F m H t Q (fun cls d H1 => xw cls d σ H1) := by
  cases t with
  | ok t h1 =>
    intro m1 H1 v G x1 r1 q1 f1
    refine p m1 H1 v (x.trans x1 fun a ha => .inl (f a ha)) r1 ⟨G, q1, fun a ha => ?_⟩
    rcases f1 a ha with z | z
    · exact x.dom a z
    · exact f a z
  | exc c w h1 => exact fun m1 H1 cls d x1 r1 g => p m1 H1 cls d (x.trans x1 fun a ha => .inl (f a ha)) r1 g
  | err => exact p
theorem snd_call {g : Str} {e : Expr} {es : List Expr} {xs : Es} {pos p : Pos} (O : Ok W C N fns lev sc X xw) (hg : sc.names.lookup g = some .globalImplicit) (hn : okName g = true) (hf : g ∈ fns) (ha : PA X (e :: es) (rdEs W C xw xs))
    (st : starEach (e :: es) X.env = (false, eval e X.env) :: starEach es X.env) (hpl : (backTo pos (starEach es X.env)).any (·.1) = false) : PE X (.Call (.Name g p) (e :: es) [] pos) (rdE W C xw (.call g xs)) := by
  obtain ⟨a, k, fd, ps, mg, kp, b, F, lk⟩ := O.calls g hf
  refine pe_mono (pe_callS F (O.room.mono lk) (show X.env.scope.names.lookup g = _ by rw [O.hsc]; exact hg) mg kp b (fun σ => L2N.passAt O.takes σ) ha (okName_ok hn).1 st hpl) fun σ H Q h => ?_
  obtain ⟨m, h, ρ, rh, s, p⟩ := h
  refine ⟨m, h, ρ, rh, s, ?_⟩
  refine post_mono (post_bind (G := GTs W H) p) fun vs H1 hh => ?_
  obtain ⟨m1, h1, ts, x1, r1, ⟨F1, q1, f1⟩, p1⟩ := hh
  exact ⟨m1, h1, ts, F1, r1, q1, post_call p1 x1 f1⟩
theorem snd_call0 {g : Str} {pos p : Pos} (O : Ok W C N fns lev sc X xw) (hg : sc.names.lookup g = some .globalImplicit) (hn : okName g = true) (hf : g ∈ fns) : PE X (.Call (.Name g p) [] [] pos) (rdE W C xw (.call g .nil)) := by
  obtain ⟨a, k, fd, ps, mg, kp, b, F, lk⟩ := O.calls g hf
  refine ⟨fun pins s σ H Q I h => ?_⟩
  obtain ⟨m, h, ρ, rh, s', p⟩ := h
  refine wpAny_Call_Name_kw (ld_glob I (show X.env.scope.names.lookup g = _ by rw [O.hsc]; exact hg) mg ?_ (okName_ok hn).1)
  refine PySem.W.callWith_K0 I.kIn kp (run_fnS (E := WE xw) (us := []) (vs := []) F (O.room.mono lk) b (L2N.passAt O.takes σ) I .nil ?_)
  have p' : Post W xw σ m H (GT W H) (C.call g [] h) Q := p
  exact ⟨m, h, [], [], rh, .nil, post_call p' Ext.refl fun _ z => absurd z (by simp)⟩
theorem snd_bi {g : Str} {e : Expr} {es : List Expr} {xs : Es} {pos p : Pos} (O : Ok W C N fns lev sc X xw) (hg : sc.names.lookup g = some .globalImplicit) (hn : okName g = true) (hf : g ∈ bltNames) (ha : PA X (e :: es) (rdEs W C xw xs))
    (st : starEach (e :: es) X.env = (false, eval e X.env) :: starEach es X.env) (hpl : (backTo pos (starEach es X.env)).any (·.1) = false) : PE X (.Call (.Name g p) (e :: es) [] pos) (rdE W C xw (.bi g xs)) := by
  obtain ⟨r, hr, hp⟩ := bi_ok (W := W) O.hK O.calm hf
  have hne : g ≠ "__name__" := by
    intro z; subst z
    simp only [bltNames, List.mem_cons, List.mem_nil_iff, or_false] at hf
    rcases hf with z | z | z | z | z | z | z | z | z <;> exact absurd z (by decide +kernel)
  have key : ∀ σ H Q, rdE W C xw (.bi g xs) σ H Q → tCB r (rdEs W C xw xs) σ H Q := fun σ H Q h => by
    obtain ⟨m, h, ρ, rh, s, p⟩ := h
    refine ⟨m, h, ρ, rh, s, ?_⟩
    refine post_mono (post_bind (G := GTs W H) p) fun vs H1 hh => ?_
    obtain ⟨m1, h1, ts, x1, r1, ⟨F1, q1, f1⟩, p1⟩ := hh
    exact hp xw σ m1 H1 h1 ts vs F1 Q r1 q1 (post_reT p1 x1)
  have gl : Gl X g := show X.env.scope.names.lookup g = _ by rw [O.hsc]; exact hg
  rcases hr with ⟨id, hv, hc⟩ | ⟨T, hv, hc⟩
  · exact pe_mono (pe_callB hc gl (O.blt g (.inl hf)) hv ha hne (okName_ok hn).1 st hpl) key
  · exact pe_mono (pe_callTy hc gl (O.blt g (.inl hf)) hv ha hne (okName_ok hn).1 st hpl) key

/-! ### methods -/
theorem base_ok {o : Expr} {m : Str} {env : Env} (h : isCall o = false) : attributeBase o m env (eval o env) = eval o env := by
  cases o <;> first | rfl | cases h
theorem few_ok {e : Expr} {env : Env} {pos : Pos} (st : starEach [e] env = [(false, eval e env)]) : ((backTo pos (starEach [e] env)).all (fun x => !x.1) && (backToKw pos (keywordEach [] env)).all (fun x => x.1.isSome)
      && decide (([e] : List Expr).length + ([] : List Keyword).length + (if ([] : List Keyword).isEmpty then 0 else 1) < 30)) = true := by rw [st]; rfl
theorem meth_split {o a : E} {mt : Str} {Q : VK} {r : V → V → Hp → Prop} {ty : V → Hp → Prop} {ρ : Sl} (rh : RelH W.K W.T m H h) (s : RelS W.K m H ρ σ) (p : Post W xw σ m H (GT W H) (evE C (.meth mt o (.cons a .nil)) ρ h) Q)
    (k1 : ∀ m2 H2 h2 t v F, RelH W.K W.T m2 H2 h2 → RepT W.K m2 H2 t v F → recvOk mt t h2 = true → ty v H2)
    (k : ∀ m0 H0 m2 H2 h2 t u v w F G, Ext [] m0 H0 m2 H2 → RelH W.K W.T m2 H2 h2 → RepT W.K m2 H2 t v F → RepT W.K m2 H2 u w G → (∀ a ∈ G, H0 a = none) → Post W xw σ m0 H0 (GT W H0) (methT mt t [u] h2) Q → r v w H2) :
    rdE W C xw o σ H fun v H1 => ty v H1 ∧ rdE W C xw a σ H1 fun w H2 => r v w H2 := by
  refine one_then (β := V) (G2 := fun _ _ _ _ _ => True) (f := fun x h1 => if recvOk mt x h1 then (evEs C (.cons a .nil) ρ h1).bind fun ts h2 => methT mt x ts h2 else .err) rh s p fun m2 H2 h2 t v F x2 r2 s2 q1 f1 p2 => ?_
  by_cases hr : recvOk mt t h2 = true
  · refine ⟨k1 m2 H2 h2 t v F r2 q1 hr, ?_⟩
    rw [if_pos hr] at p2
    have e : (evEs C (.cons a .nil) ρ h2).bind (fun ts h2 => methT mt t ts h2) = (evE C a ρ h2).bind fun u h3 => methT mt t [u] h3 := by
      show ((evE C a ρ h2).bind fun t h1 => (R.ok [] h1 : R (List Tm)).bind fun ts h2 => .ok (t :: ts) h2).bind _ = _
      cases evE C a ρ h2 <;> rfl
    rw [e] at p2
    refine ⟨m2, h2, ρ, r2, s2, ?_⟩
    refine post_mono (post_bind (G := GT W H2) (post_reT p2 x2)) fun w H3 hh => ?_
    obtain ⟨m3, h3, u, x3, r3, ⟨G, q3, f3⟩, p3⟩ := hh
    exact k m2 H2 m3 H3 h3 t u v w F G x3 r3 (q1.ext x3) q3 f3 p3
  · rw [if_neg hr] at p2; exact p2.elim
theorem recv_lst {mt : Str} {t : Tm} {v : V} {F : List Addr} (hm : (mt == ("join" : Str)) = false) (K0 : PySem.W.Frag) (hK : K0 = W.K) (r : RelH W.K W.T m H h) (q : RepT W.K m H t v F) (e : recvOk mt t h = true) : tyV K0 "list" v H := by
  subst hK
  unfold recvOk at e
  split at e
  · rename_i n
    obtain ⟨q, _⟩ := q
    cases q with
    | @ref _ l hn =>
      simp only [Bool.and_eq_true] at e
      obtain ⟨_, e⟩ := e
      cases hc : h[n]? with
      | none => rw [hc] at e; cases e
      | some c =>
        cases c with
        | lst ds =>
          obtain ⟨vs, q1, _⟩ := r.cell n l ds hn hc
          exact .inl ⟨rfl, vs, SqL.of q1⟩
  · rw [hm] at e; cases e
  · cases e
theorem recv_str {mt : Str} {t : Tm} {v : V} {F : List Addr} (hm : (mt == ("append" : Str) || mt == ("extend" : Str)) = false) (q : RepT W.K m H t v F) (e : recvOk mt t h = true) : ∃ z, v = .str z := by
  unfold recvOk at e
  split at e
  · rw [hm] at e; cases e
  · exact ⟨_, q.str⟩
  · cases e
theorem snd_append {o a : Expr} {x y : E} {apos pos : Pos} (O : Ok W C N fns lev sc X xw) (ho : PE X o (rdE W C xw x)) (ha : PE X a (rdE W C xw y)) (hc : isCall o = false) (hl : (apos.endLine == pos.line) = true) (st : starEach [a] X.env = [(false, eval a X.env)]) :
    PE X (.Call (.Attribute o "append" apos) [a] [] pos) (rdE W C xw (.meth "append" x (.cons y .nil))) := by
  refine pe_mono (pe_bm PySem.F.plainAttrs_list PySem.F.slot_list_append PySem.F.type_list_append mt_append ho (pa_cons ha pa_nil st) (base_ok hc) (few_ok st) hl st rfl) fun σ H Q h => ?_
  obtain ⟨m, h, ρ, rh, s, p⟩ := h
  exact meth_split rh s p (fun m2 H2 h2 t v F r2 q e => recv_lst (by decide +kernel) X.K O.hK r2 q e) fun m0 H0 m2 H2 h2 t u v w F G x0 r2 q1 q2 fr p2 => ap_ok x0 r2 q1 q2 fr (show Post W xw σ m0 H0 (GT W H0) (mAppend t u h2) Q from p2)
theorem snd_extend {o a : Expr} {x y : E} {apos pos : Pos} (O : Ok W C N fns lev sc X xw) (ho : PE X o (rdE W C xw x)) (ha : PE X a (rdE W C xw y)) (hc : isCall o = false) (hl : (apos.endLine == pos.line) = true) (st : starEach [a] X.env = [(false, eval a X.env)]) :
    PE X (.Call (.Attribute o "extend" apos) [a] [] pos) (rdE W C xw (.meth "extend" x (.cons y .nil))) := by
  refine pe_mono (pe_bm PySem.F.plainAttrs_list PySem.F.slot_list_extend PySem.F.type_list_extend mt_extend ho (pa_cons ha pa_nil st) (base_ok hc) (few_ok st) hl st rfl) fun σ H Q h => ?_
  obtain ⟨m, h, ρ, rh, s, p⟩ := h
  exact meth_split rh s p (fun m2 H2 h2 t v F r2 q e => recv_lst (by decide +kernel) X.K O.hK r2 q e) fun m0 H0 m2 H2 h2 t u v w F G x0 r2 q1 q2 fr p2 => xt_ok x0 r2 q1 q2 (show Post W xw σ m0 H0 (GT W H0) (mExtend t u h2) Q from p2)
theorem snd_join {o a : Expr} {x y : E} {apos pos : Pos} (O : Ok W C N fns lev sc X xw) (ho : PE X o (rdE W C xw x)) (ha : PE X a (rdE W C xw y)) (hc : isCall o = false) (hl : (apos.endLine == pos.line) = true) (st : starEach [a] X.env = [(false, eval a X.env)]) :
    PE X (.Call (.Attribute o "join" apos) [a] [] pos) (rdE W C xw (.meth "join" x (.cons y .nil))) := by
  refine pe_mono (pe_join ho ha st (base_ok hc) hl) fun σ H Q h => ?_
  obtain ⟨m, h, ρ, rh, s, p⟩ := h
  exact meth_split rh s p (fun m2 H2 h2 t v F r2 q e => recv_str (by decide +kernel) q e) fun m0 H0 m2 H2 h2 t u v w F G x0 r2 q1 q2 fr p2 => jn_ok X.K O.hK r2 q1 q2 (post_reT (show Post W xw σ m0 H0 (GT W H0) (mJoin t u h2) Q from p2) x0)

/-! ### texts of parts -/
theorem snd_fmt {a : Expr} {x : E} {pos : Pos} (ha : PE X a (rdE W C xw x)) : PE X (.FormattedValue a (-1) none pos) (rdE W C xw (.fmt x)) := by
  refine pe_mono (pe_fmt ha) fun σ H Q h => ?_
  obtain ⟨m, h, ρ, rh, s, p⟩ := h
  refine one_then (β := V) (G2 := fun _ _ _ _ _ => True) rh s p fun m2 H2 h2 t v F x2 r2 _ q1 _ p2 => ?_
  have p3 := post_reT p2 x2
  cases e : fmtT t with
  | none => rw [e] at p3; exact p3.elim
  | some z =>
    rw [e] at p3
    have q := post_d p3 r2 (.str z)
    unfold fmtT at e
    split at e
    · rename_i y
      by_cases hz : y.length ≤ sizeLine
      · rw [if_pos hz] at e; cases e
        exact .inl ⟨_, q1.str, hz, q⟩
      · rw [if_neg hz] at e; cases e
    · rename_i i
      by_cases hz : i.natAbs.log2 < 1920
      · rw [if_pos hz] at e; cases e
        exact .inr ⟨_, q1.int, hz, q⟩
      · rw [if_neg hz] at e; cases e
    · cases e
def esL : Es → List E
  | .nil => []
  | .cons e es => e :: esL es
theorem pj_of {f : Expr → Option E} (hf : ∀ a x, f a = some x → PE X a (rdE W C xw x)) : ∀ (vs : List Expr) (xs : Es), ofEs f vs = some xs → PJ X vs ((esL xs).map (rdE W C xw))
  | [], xs, e => by cases e; exact .nil
  | a :: as, xs, e => by
    replace e : (match f a, ofEs f as with | some x, some y => some (Es.cons x y) | _, _ => none) = some xs := e
    cases e1 : f a with
    | none => rw [e1] at e; cases e
    | some y =>
      cases e2 : ofEs f as with
      | none => rw [e1, e2] at e; cases e
      | some z =>
        rw [e1, e2] at e
        cases e
        exact .cons (hf a y e1) (pj_of hf as z e2)
theorem fstr_ok {Q : Str → Hp → Prop} : ∀ (xs : Es) (acc : Str) (m : List Addr) (H : Hp) (h : AH) (ρ : Sl), RelH W.K W.T m H h → RelS W.K m H ρ σ → Post W xw σ m H GI (evF C xs acc ρ h) Q → tJs ((esL xs).map (rdE W C xw)) acc σ H Q
  | .nil, acc, m, H, h, ρ, rh, s, p => post_at p rh rfl
  | .cons e es, acc, m, H, h, ρ, rh, s, p => by
    refine ⟨m, h, ρ, rh, s, ?_⟩
    refine post_mono (post_bind (G := GT W H) p) fun v H1 hh => ?_
    obtain ⟨m1, h1, t, x1, r1, ⟨F, q1, f1⟩, p1⟩ := hh
    have p2 := post_re p1 x1 (G' := GI) fun _ _ _ _ g => g
    split at p2
    · rename_i y
      by_cases hz : (acc ++ y).length ≤ sizeLine
      · rw [if_pos hz] at p2
        exact ⟨y, q1.str, hz, fstr_ok es (acc ++ y) m1 H1 h1 ρ r1 (x1.rels s) p2⟩
      · rw [if_neg hz] at p2; exact p2.elim
    · exact p2.elim
theorem snd_fstr {f : Expr → Option E} {vs : List Expr} {xs : Es} {pos : Pos} (hf : ∀ a x, f a = some x → PE X a (rdE W C xw x)) (e : ofEs f vs = some xs) (hl : ¬ vs.length < 2) : PE X (.JoinedStr vs pos) (rdE W C xw (.fstr xs)) := by
  match vs, hl with
  | v1 :: v2 :: rest, _ =>
    refine pe_mono (pe_joined (pj_of hf _ _ e)) fun σ H Q h => ?_
    obtain ⟨m, h, ρ, rh, s, p⟩ := h
    refine fstr_ok xs Str.empty m H h ρ rh s ?_
    have p' : Post W xw σ m H (GT W H) ((evF C xs Str.empty ρ h).bind fun s h1 => .ok (.d (.str s)) h1) Q := p
    refine post_mono (post_bind (G := GI) p') fun z H1 hh => ?_
    obtain ⟨m1, h1, y, x1, r1, rfl, p1⟩ := hh
    exact post_d (post_reT p1 x1) r1 (.str _)
  | [_], h => exact absurd h (by simp)
  | [], h => exact absurd h (by simp)
end
end Mill

set_option Elab.async false
set_option linter.all false
set_option maxRecDepth 100000
set_option maxHeartbeats 4000000
/-! Mill9: what loops walk. -/
namespace Mill
open PySem PySem.Spec PyProof.Rows L2

/-! ### enumerate(tuple) -/
def IteT (K : PySem.W.Frag) (a : Addr) : L2.It :=
  ⟨fun i H => ∃ (xs : List V) (x : V), SqT K H a xs ∧ xs[i]? = some x, fun i H v H' => ∃ T x, v = .ref T ∧ H T = none ∧ H' = upd H T (.tup [.int (i : Nat), x]) ∧ ∀ xs, SqT K H a xs → xs[i]? = some x, fun i H => ∃ xs : List V, SqT K H a xs ∧ xs.length = i⟩
theorem cls_ne {h : Heap} {a b : Addr} {o o' : Obj} (e : h.get? a = some o) (e' : h.get? b = some o') (hne : o.cls ≠ o'.cls) : a ≠ b := by
  intro z
  rw [z, e'] at e
  cases e
  exact hne rfl
theorem ty_ne {a b : String} (h : a ≠ b) : Value.type a ≠ Value.type b := fun z => by
  injection z with z
  exact h z
theorem turn_enumT {P : Program} {w : World} {K : PySem.W.Frag} {elts : List Expr} {kk : Nat} {tpos : Pos} (a e it : Addr) :
    Turn P w K (.Tuple elts kk tpos) (IteT K a) [e, it] e (fun i h => (∃ old, IsEnum h e it ((i : Nat) : Int) old) ∧ h.IsTupleIter it a i ∧ e ≠ it) where
  mem := by simp
  obj := fun i h st b hb => by
    obtain ⟨⟨old, he⟩, ⟨o, ho, hc, hd⟩, _⟩ := st
    have e' : b = e ∨ b = it := by simpa using hb
    rcases e' with z | z
    · rw [z]; exact ⟨_, he, fun v q => nomatch q⟩
    · rw [z]; exact ⟨o, ho, fun v q => by rw [hd] at q; cases q⟩
  keep := fun i h h' st k => let ⟨⟨old, he⟩, hi, hne⟩ := st; ⟨⟨old, k e (by simp) _ he⟩, hi.at fun o q => k it (by simp) o q, hne⟩
  item := by
    intro X hP hw hK hc i pins s σ H E I hf st hg
    subst hP hw hK
    obtain ⟨⟨old, he⟩, hit, hne⟩ := st
    obtain ⟨xs, x, hq, hx⟩ := hg
    obtain ⟨its, rv, p, hz⟩ := I.tuple hq
    obtain ⟨u, hu, ru⟩ := rv.get hx
    have hel : e < s.heap.objs.size := Heap.lt_size he
    have nae : a ≠ e := by
      obtain ⟨o, q1, q2, _⟩ := id p
      exact cls_ne q1 he (by rw [q2]; exact ty_ne (by decide))
    have nai : a ≠ it := by
      obtain ⟨o, q1, q2, _⟩ := id p
      obtain ⟨o2, q3, q4, _⟩ := id hit
      exact cls_ne q1 q3 (by rw [q2, q4]; exact ty_ne (by decide))
    have hlt : i < its.toArray.size := by
      have := (List.getElem?_eq_some_iff.mp hu).1
      simpa using this
    have W := WalksT.enumerateD (prog := X.prog) (w := X.w) (A := X.A) (Draws.tuple (A := X.A.in1) (show X.A.in1.handled = none from I.ok.hd hc) it a nai its.toArray) e hne (by simp only [List.mem_cons, List.not_mem_nil, or_false, not_or]; exact ⟨hne, fun z => nae z.symm⟩) (by simp)
    refine W.item i s _ _ hlt ⟨⟨old, he⟩, hit, p⟩ fun T vals h' tk hP hle hT mid hk => ?_
    obtain ⟨t, y, hy, hv⟩ := hP
    have hyu : y = u := by
      have e1 : its[i]? = some y := by simpa using hy
      rw [hu] at e1
      exact (Option.some.inj e1).symm
    subst hyu
    subst hv
    refine ⟨_, rfl, W.go elts kk tpos i T { s with heap := h', toks := tk } _ _ mid fun h'' st' hk2 => ?_⟩
    have hTw : T ∉ [e, it] := W.apart _ _ _ mid
    have hT2 : IsTup h'' T #[.int i t, y] := hT.at fun o q => hk2 T o hTw q
    have new : ObjOk X.prog X.w (upd H T (.tup [.int (i : Nat), x])) h'' T (.tup [.int (i : Nat), x]) :=
      ⟨by show 2 ≤ sizeLine; decide, [.int i t, y], .cons ⟨_, rfl⟩ (.cons ru .nil), hT2⟩
    have I1 : Inv X pins σ (upd H T (.tup [.int (i : Nat), x])) { s with heap := h'', toks := tk } :=
      I.turnedNew (ch := [e, it]) (fun b ob hb q => hk2 b ob hb (hk b ob hb q)) hf hle new
    have hTn : H T = none := I.hok.fresh hle
    refine ⟨.ref T, _, I1, rfl, ⟨T, x, rfl, hTn, rfl, fun ys hy => by rw [I.tuple_inj hy hq]; exact hx⟩, ⟨st'.1, st'.2.1, hne⟩, fun b hb => ?_⟩
    rw [upd_ne (fun z : b = T => hTw (by rw [← z]; exact hb))]
    exact (hf b hb).1
  done := by
    intro X hP hw hK hc i pins s σ H E I hf st hg
    subst hP hw hK
    obtain ⟨⟨old, he⟩, hit, hne⟩ := st
    obtain ⟨xs, hq, hx⟩ := hg
    obtain ⟨its, rv, p, hz⟩ := I.tuple hq
    have nae : a ≠ e := by
      obtain ⟨o, q1, q2, _⟩ := id p
      exact cls_ne q1 he (by rw [q2]; exact ty_ne (by decide))
    have nai : a ≠ it := by
      obtain ⟨o, q1, q2, _⟩ := id p
      obtain ⟨o2, q3, q4, _⟩ := id hit
      exact cls_ne q1 q3 (by rw [q2, q4]; exact ty_ne (by decide))
    have hl : its.toArray.size = i := by have := rv.length; simp; omega
    have W := WalksT.enumerateD (prog := X.prog) (w := X.w) (A := X.A) (Draws.tuple (A := X.A.in1) (show X.A.in1.handled = none from I.ok.hd hc) it a nai its.toArray) e hne (by simp only [List.mem_cons, List.not_mem_nil, or_false, not_or]; exact ⟨hne, fun z => nae z.symm⟩) (by simp)
    rw [hl] at W
    exact W.done s _ _ ⟨⟨old, he⟩, hit, p⟩ fun h' tk hk => ⟨rfl, I.turnedL (t' := tk) (ch := [e, it]) hk hf⟩
  self := fun A i s Q E st h => let ⟨⟨_, he⟩, _⟩ := st; wpAny_pyIter_enum he h

/-! ### zip of three tuples -/
def Itz3 (K : PySem.W.Frag) (a b c : Addr) : L2.It :=
  ⟨fun i H => ∃ (xs ys zs : List V) (x y z : V), SqT K H a xs ∧ SqT K H b ys ∧ SqT K H c zs ∧ xs[i]? = some x ∧ ys[i]? = some y ∧ zs[i]? = some z,
    fun i H v H' => ∃ T x y z, v = .ref T ∧ H T = none ∧ H' = upd H T (.tup [x, y, z]) ∧ (∀ xs, SqT K H a xs → xs[i]? = some x) ∧ (∀ ys, SqT K H b ys → ys[i]? = some y) ∧ ∀ zs, SqT K H c zs → zs[i]? = some z,
    fun i H => ∃ xs ys zs : List V, SqT K H a xs ∧ SqT K H b ys ∧ SqT K H c zs ∧ xs.length = i ∧ ys.length = i ∧ zs.length = i⟩
def Zip3At (z TI TO i1 i2 i3 a b c : Addr) (i : Nat) (h : Heap) : Prop :=
  IsZip h z TI TO .none ∧ IsTupOf3 h TI (.ref i1) (.ref i2) (.ref i3) ∧ (∃ a1 a2 a3, IsTupOf3 h TO a1 a2 a3) ∧ h.IsTupleIter i1 a i ∧ h.IsTupleIter i2 b i ∧ h.IsTupleIter i3 c i
theorem turn_zip3 {P : Program} {w : World} {K : PySem.W.Frag} {elts : List Expr} {kk : Nat} {tpos : Pos} {z TI TO i1 i2 i3 a b c : Addr} (D : ZipSep3 z TI TO i1 i2 i3 [i1, a] [i2, b] [i3, c]) :
    Turn P w K (.Tuple elts kk tpos) (Itz3 K a b c) [z, TI, TO, i1, i2, i3] z (Zip3At z TI TO i1 i2 i3 a b c) where
  mem := by simp
  obj := fun i h st d hd => by
    obtain ⟨hz, hTI, ⟨x, y, u, hTO⟩, ⟨o1, e1, _, d1⟩, ⟨o2, e2, _, d2⟩, ⟨o3, e3, _, d3⟩⟩ := st
    have e' : d = z ∨ d = TI ∨ d = TO ∨ d = i1 ∨ d = i2 ∨ d = i3 := by simpa using hd
    rcases e' with q | q | q | q | q | q
    · rw [q]; exact ⟨_, hz, fun v q => nomatch q⟩
    · rw [q]; exact ⟨_, hTI, fun v q => nomatch q⟩
    · rw [q]; exact ⟨_, hTO, fun v q => nomatch q⟩
    · rw [q]; exact ⟨o1, e1, fun v q => by rw [d1] at q; cases q⟩
    · rw [q]; exact ⟨o2, e2, fun v q => by rw [d2] at q; cases q⟩
    · rw [q]; exact ⟨o3, e3, fun v q => by rw [d3] at q; cases q⟩
  keep := fun i h h' st k => by
    obtain ⟨hz, hTI, ⟨x, y, u, hTO⟩, h1, h2, h3⟩ := st
    exact ⟨k z (by simp) _ hz, k TI (by simp) _ hTI, ⟨x, y, u, k TO (by simp) _ hTO⟩, h1.at fun o q => k i1 (by simp) o q, h2.at fun o q => k i2 (by simp) o q, h3.at fun o q => k i3 (by simp) o q⟩
  item := by
    intro X hP hw hK hc i pins s σ H E I hf st hg
    subst hP hw hK
    obtain ⟨hz, hTI, hTO, h1, h2, h3⟩ := st
    obtain ⟨xs, ys, zs, x, y, u, q1, q2, q3, g1, g2, g3⟩ := hg
    obtain ⟨it1, rv1, p1, _⟩ := I.tuple q1
    obtain ⟨it2, rv2, p2, _⟩ := I.tuple q2
    obtain ⟨it3, rv3, p3, _⟩ := I.tuple q3
    obtain ⟨u1, hu1, ru1⟩ := rv1.get g1
    obtain ⟨u2, hu2, ru2⟩ := rv2.get g2
    obtain ⟨u3, hu3, ru3⟩ := rv3.get g3
    have ne (a i1 : Addr) (its : List Value) (p : IsTup s.heap a its.toArray) (hit : s.heap.IsTupleIter i1 a i) : a ≠ i1 := by
      obtain ⟨o, q1, q2, _⟩ := id p
      obtain ⟨o2, q3, q4, _⟩ := id hit
      exact cls_ne q1 q3 (by rw [q2, q4]; exact ty_ne (by decide))
    have l1 : i < it1.toArray.size := by simpa using (List.getElem?_eq_some_iff.mp hu1).1
    have l2 : i < it2.toArray.size := by simpa using (List.getElem?_eq_some_iff.mp hu2).1
    have l3 : i < it3.toArray.size := by simpa using (List.getElem?_eq_some_iff.mp hu3).1
    have W := WalksT.zipD3 (prog := X.prog) (w := X.w) (A := X.A) D (Draws.tuple (A := X.A.in1) (show X.A.in1.handled = none from I.ok.hd hc) i1 a (ne _ _ _ p1 h1) it1.toArray) (Draws.tuple (A := X.A.in1) (show X.A.in1.handled = none from I.ok.hd hc) i2 b (ne _ _ _ p2 h2) it2.toArray) (Draws.tuple (A := X.A.in1) (show X.A.in1.handled = none from I.ok.hd hc) i3 c (ne _ _ _ p3 h3) it3.toArray)
    refine W.item i s _ _ (by omega) ⟨hz, hTI, hTO, ⟨h1, p1⟩, ⟨h2, p2⟩, ⟨h3, p3⟩⟩ fun T vals h' tk hP hle hT mid hk => ?_
    obtain ⟨x1, x2, x3, hx1, hx2, hx3, hv⟩ := hP
    have same (its : List Value) (v w : Value) (e1 : its[i]? = some v) (e2 : its.toArray[i]? = some w) : w = v := by
      have e2 : its[i]? = some w := by simpa using e2
      rw [e1] at e2
      exact (Option.some.inj e2).symm
    have := same _ _ _ hu1 hx1
    have := same _ _ _ hu2 hx2
    have := same _ _ _ hu3 hx3
    subst x1 x2 x3 hv
    refine ⟨_, rfl, W.go elts kk tpos i T { s with heap := h', toks := tk } _ _ mid fun h'' st' hk2 => ?_⟩
    have hTw : T ∉ [z, TO, i1, i2, i3] := W.apart _ _ _ mid
    have hT2 : IsTup h'' T #[u1, u2, u3] := hT.at fun o q => hk2 T o hTw q
    have new : ObjOk X.prog X.w (upd H T (.tup [x, y, u])) h'' T (.tup [x, y, u]) :=
      ⟨by show 3 ≤ sizeLine; decide, [u1, u2, u3], .cons ru1 (.cons ru2 (.cons ru3 .nil)), hT2⟩
    have sub : ∀ d ∈ [z, TO, i1, i2, i3], d ∈ [z, TI, TO, i1, i2, i3] := fun d hd => by
      simp only [List.mem_cons, List.not_mem_nil, or_false] at hd ⊢
      rcases hd with q | q | q | q | q
      · exact .inl q
      · exact .inr (.inr (.inl q))
      · exact .inr (.inr (.inr (.inl q)))
      · exact .inr (.inr (.inr (.inr (.inl q))))
      · exact .inr (.inr (.inr (.inr (.inr q))))
    have I1 : Inv X pins σ (upd H T (.tup [x, y, u])) { s with heap := h'', toks := tk } :=
      I.turnedNew (ch := [z, TO, i1, i2, i3]) (fun d ob hb q => hk2 d ob hb (hk d ob hb q)) (fun d hd => hf d (sub d hd)) hle new
    have hTn : H T = none := I.hok.fresh hle
    refine ⟨.ref T, _, I1, rfl, ⟨T, x, y, u, rfl, hTn, rfl, fun l hl => by rw [I.tuple_inj hl q1]; exact g1, fun l hl => by rw [I.tuple_inj hl q2]; exact g2, fun l hl => by rw [I.tuple_inj hl q3]; exact g3⟩,
      ⟨st'.1, st'.2.1, st'.2.2.1, st'.2.2.2.1.1, st'.2.2.2.2.1.1, st'.2.2.2.2.2.1⟩, fun d hd => ?_⟩
    have hlt : d < s.heap.objs.size := by
      have e' : d = z ∨ d = TI ∨ d = TO ∨ d = i1 ∨ d = i2 ∨ d = i3 := by simpa using hd
      rcases e' with q | q | q | q | q | q
      · rw [q]; exact Heap.lt_size hz
      · rw [q]; exact Heap.lt_size hTI
      · rw [q]; obtain ⟨_, _, _, w⟩ := hTO; exact Heap.lt_size w
      · rw [q]; obtain ⟨_, w, _⟩ := h1; exact Heap.lt_size w
      · rw [q]; obtain ⟨_, w, _⟩ := h2; exact Heap.lt_size w
      · rw [q]; obtain ⟨_, w, _⟩ := h3; exact Heap.lt_size w
    rw [upd_ne (fun z : d = T => absurd (Nat.lt_of_lt_of_le hlt hle) (by rw [z]; exact Nat.lt_irrefl _))]
    exact (hf d hd).1
  done := by
    intro X hP hw hK hc i pins s σ H E I hf st hg
    subst hP hw hK
    obtain ⟨hz, hTI, hTO, h1, h2, h3⟩ := st
    obtain ⟨xs, ys, zs, q1, q2, q3, g1, g2, g3⟩ := hg
    obtain ⟨it1, rv1, p1, _⟩ := I.tuple q1
    obtain ⟨it2, rv2, p2, _⟩ := I.tuple q2
    obtain ⟨it3, rv3, p3, _⟩ := I.tuple q3
    have ne (a i1 : Addr) (its : List Value) (p : IsTup s.heap a its.toArray) (hit : s.heap.IsTupleIter i1 a i) : a ≠ i1 := by
      obtain ⟨o, q1, q2, _⟩ := id p
      obtain ⟨o2, q3, q4, _⟩ := id hit
      exact cls_ne q1 q3 (by rw [q2, q4]; exact ty_ne (by decide))
    have l1 : it1.toArray.size = i := by have := rv1.length; simp; omega
    have l2 : it2.toArray.size = i := by have := rv2.length; simp; omega
    have l3 : it3.toArray.size = i := by have := rv3.length; simp; omega
    have W := WalksT.zipD3 (prog := X.prog) (w := X.w) (A := X.A) D (Draws.tuple (A := X.A.in1) (show X.A.in1.handled = none from I.ok.hd hc) i1 a (ne _ _ _ p1 h1) it1.toArray) (Draws.tuple (A := X.A.in1) (show X.A.in1.handled = none from I.ok.hd hc) i2 b (ne _ _ _ p2 h2) it2.toArray) (Draws.tuple (A := X.A.in1) (show X.A.in1.handled = none from I.ok.hd hc) i3 c (ne _ _ _ p3 h3) it3.toArray)
    rw [l1, l2, l3, Nat.min_self, Nat.min_self] at W
    exact W.done s _ _ ⟨hz, hTI, hTO, ⟨h1, p1⟩, ⟨h2, p2⟩, ⟨h3, p3⟩⟩ fun h' tk hk => ⟨rfl, I.turnedL (t' := tk) (ch := [z, TI, TO, i1, i2, i3]) (fun d o hd q => hk d o (fun m => hd (by
      simp only [List.mem_cons, List.not_mem_nil, or_false] at m ⊢
      rcases m with q | q | q | q | q
      · exact .inl q
      · exact .inr (.inr (.inl q))
      · exact .inr (.inr (.inr (.inl q)))
      · exact .inr (.inr (.inr (.inr (.inl q))))
      · exact .inr (.inr (.inr (.inr (.inr q)))))) q) hf⟩
  self := fun A i s Q E st h => wpAny_pyIter_zip st.1 h

section
variable {X : Cx} {tg : Expr}
/-- a list, a tuple, a text -/
def iAny (K : PySem.W.Frag) (tl : TE) : TI := fun σ H R => tl σ H fun v H1 => (∃ a, v = .ref a ∧ (∃ xs, SqL K H1 a xs) ∧ R (Itl K a) H1) ∨ (∃ a, v = .ref a ∧ (∃ xs, SqT K H1 a xs) ∧ R (Itt K a) H1) ∨ ∃ x, v = .str x ∧ R (Its x) H1
theorem pi_any {l : Expr} {tl : TE} (hl : PE X l tl) : PI X tg l (iAny X.K tl) := by
  refine ⟨fun pins s σ H R I h => ?_⟩
  refine thn (hl.run pins s σ H _ I h) fun v s1 ⟨x, H1, I1, r1, q1⟩ => ?_
  rcases q1 with ⟨a, e, ⟨xs, hq⟩, q⟩ | ⟨a, e, ⟨xs, hq⟩, q⟩ | ⟨x, e, q⟩
  · subst e
    cases r1
    obtain ⟨its, rv, p, hz⟩ := I1.list hq
    exact wpAny_pyIter_list p.isList (pi_one (tk := s1.toks) I1 _ (turn_list a _) ⟨_, Heap.get?_push_size _ rfl, rfl, rfl⟩ q)
  · subst e
    cases r1
    obtain ⟨its, rv, p, hz⟩ := I1.tuple hq
    exact wpAny_pyIter_tuple (show s1.heap.IsTuple a its.toArray from p) (pi_one (tk := s1.toks) I1 _ (turn_tuple a _) ⟨_, Heap.get?_push_size _ rfl, rfl, rfl⟩ q)
  · subst e
    obtain ⟨t, rfl⟩ := r1
    cases ha : x.cps.all (· < 128)
    · exact wpAny_pyIter_wide ha (pi_one (tk := s1.toks) I1 _ (turn_str _ x t "str_iterator" (.inr rfl)) ⟨_, Heap.get?_push_size _ rfl, rfl, rfl⟩ q)
    · exact wpAny_pyIter_ascii ha (pi_one (tk := s1.toks) I1 _ (turn_str _ x t "str_ascii_iterator" (.inl rfl)) ⟨_, Heap.get?_push_size _ rfl, rfl, rfl⟩ q)
def iEnumT (K : PySem.W.Frag) (ta : TA) : TI := fun σ H R => ta σ H fun vs H1 => ∃ a xs, vs = [.ref a] ∧ SqT K H1 a xs ∧ R (IteT K a) H1
set_option maxHeartbeats 1000000 in
theorem meets_enumB {v : Value} {o : Obj} {Hh : Heap → Prop} (B : Begins v o Hh) :
    Meets (Builtin.«enumerate.__new__» ⟨[.type "enumerate", v], []⟩) (fun _ R s => Hh s.heap ∧
      R (.ok (.ret (.ref (s.heap.push o).objs.size))) { s with heap := (s.heap.push o).push { cls := .type "enumerate", data := .fields #[.none, .bool false, .ref s.heap.objs.size, rawInt 0, .none, .none] } }) :=
  .of_wp fun prog w A R s h => by
    obtain ⟨hp, g, d, tk, os⟩ := s; obtain ⟨h1, h⟩ := h
    have hsub := sub_enumerate
    have q1 : ∀ {A' : Around} {E : Value → Shared → Prop} {Q : Value → Shared → Prop}, Q (.ref hp.objs.size) ⟨hp.push o, g, d, tk, os⟩ → wpAny (model prog w) A' (pyIter v) Q E ⟨hp, g, d, tk, os⟩ :=
      fun q => B.iter prog w _ _ ⟨hp, g, d, tk, os⟩ _ h1 q
    wp_walk using q1
    refine wpAny_stack_any fun st => wpAny_pure ?_
    split
    · rename_i c _ _ _ _ _
      cases (c == Value.type "enumerate")
      · wp_walk using q1
        exact ⟨_, rfl, h⟩
      · wp_walk using q1
        exact ⟨_, rfl, h⟩
    · wp_walk using q1
      exact ⟨_, rfl, h⟩
theorem call_enumB {prog : Program} {w : World} {A : Around} {E : Value → Shared → Prop} {s : Shared} {v : Value} {o : Obj} {Hh : Heap → Prop} {Q : Value → Shared → Prop} (B : Begins v o Hh) (h1 : Hh s.heap)
    (h : ∀ h', IsEnum h' (s.heap.objs.size + 1) s.heap.objs.size 0 .none → h'.get? s.heap.objs.size = some o → h'.objs.size = s.heap.objs.size + 2 →
      (∀ b o, s.heap.get? b = some o → h'.get? b = some o) → Q (.ref (s.heap.objs.size + 1)) { s with heap := h' }) :
    wpAny (model prog w) A (call (.type "enumerate") [v]) Q E s := by
  refine callType_new F.called_enumerate (by decide) (F.typeCall_enumerate_1 _) (F.newCall_enumerate_1 _) (fun obj => F.args_object_init_2 obj _) F.entry_enumerate_new
    (meets_enumB B) ⟨h1, ?_⟩
  have hz : (s.heap.push o).objs.size = s.heap.objs.size + 1 := Heap.size_push ..
  show _ ∧ _
  rw [hz]
  have he : IsEnum ((s.heap.push o).push { cls := .type "enumerate", data := .fields #[.none, .bool false, .ref s.heap.objs.size, rawInt 0, .none, .none] }) (s.heap.objs.size + 1) s.heap.objs.size 0 .none := by
    have := Heap.get?_push_size (s.heap.push o) (o := { cls := .type "enumerate", data := .fields #[.none, .bool false, .ref s.heap.objs.size, rawInt 0, .none, .none] }) rfl
    rw [hz] at this; exact this
  exact ⟨⟨_, he, rfl⟩, h _ he (Heap.get?_push_of_some _ (Heap.get?_push_size _ B.free)) (by rw [Heap.size_push, hz]) fun b o x => Heap.get?_push_of_some _ (Heap.get?_push_of_some _ x)⟩
theorem pi_enumT {e : Expr} {ta : TA} {p pos tpos : Pos} {elts : List Expr} {kk : Nat} (hg : Gl X "enumerate") (hm : X.mg "enumerate" = none) (ha : PA X [e] ta) (hs : starEach [e] X.env = [(false, eval e X.env)]) :
    PI X (.Tuple elts kk tpos) (.Call (.Name "enumerate" p) [e] [] pos) (iEnumT X.K ta) := by
  refine ⟨fun pins s σ H R I h => ?_⟩
  refine Call_ (ld_blt I hg hm boot_enumerate (PyProof.Rows.callWith_type1 (thn (ha.run pos pins s σ H _ I h) fun us s1 ⟨vs, H1, I1, r1, q1⟩ => ?_) hs rfl))
  obtain ⟨a, xs, ex, hq, q⟩ := q1
  subst ex
  cases r1 with
  | cons r rr =>
    cases rr
    cases r
    obtain ⟨its, rv, p', hz⟩ := I1.tuple hq
    refine call_enumB (begins_tuple a its.toArray) p' fun h' he hit hsz hk => wpAny_pyIter_enum he ?_
    have I2 : Inv X pins σ H1 { s1 with heap := h' } := I1.kept (t' := s1.toks) hk
    refine ⟨s1.heap.objs.size + 1, [s1.heap.objs.size + 1, s1.heap.objs.size], _, _, H1, rfl, I2, turn_enumT a (s1.heap.objs.size + 1) s1.heap.objs.size, ⟨⟨.none, he⟩, ⟨_, hit, rfl, rfl⟩, Nat.succ_ne_self _⟩, fun b hb => ?_, q⟩
    have e' : b = s1.heap.objs.size + 1 ∨ b = s1.heap.objs.size := by simpa using hb
    have hle : s1.heap.objs.size ≤ b := by
      rcases e' with z | z
      · rw [z]; exact Nat.le_add_right _ _
      · rw [z]; exact Nat.le_refl _
    exact I1.fpOk hle (I1.hok.fresh hle)
/-- new things, known as they stand -/
def heldH (H : Hp) (g : Heap) (fp : List Addr) : Hp := fun b => if b ∈ fp then some (.ext fun h => ∀ o, g.get? b = some o → h.get? b = some o) else H b
theorem held_in {H : Hp} {g : Heap} {fp : List Addr} {b : Addr} (hb : b ∈ fp) : heldH H g fp b = some (.ext fun h => ∀ o, g.get? b = some o → h.get? b = some o) := by unfold heldH; rw [if_pos hb]
theorem held_out {H : Hp} {g : Heap} {fp : List Addr} {b : Addr} (hb : b ∉ fp) : heldH H g fp b = H b := by unfold heldH; rw [if_neg hb]
theorem inv_held {pins : List (Addr × Obj)} {σ : L2.St} {H : Hp} {s : Shared} {h' : Heap} {fp : List Addr} (I : Inv X pins σ H s) (k : ∀ b o, s.heap.get? b = some o → h'.get? b = some o) (hn : ∀ b ∈ fp, s.heap.objs.size ≤ b ∧ ∃ o, h'.get? b = some o) : Inv X pins σ (heldH H h' fp) { s with heap := h' } := by
  have out : ∀ b o, s.heap.get? b = some o → b ∉ fp := fun b o e z => absurd (Nat.lt_of_lt_of_le (Heap.lt_size e) (hn b z).1) (Nat.lt_irrefl _)
  have outH : ∀ b u, H b = some u → b ∉ fp := fun b u e z => by
    have := I.hok.fresh (hn b z).1
    rw [this] at e; cases e
  refine I.un (t' := s.toks) ⟨fun b o e _ _ _ => k b o e, fun b o e _ _ _ => ⟨o.slots, k b o e⟩, fun b o e n _ => by rw [held_out (out b o e)]; exact n, fun b o e _ => ⟨o, k b o e⟩, fun b xs e => by rw [held_out (outH _ _ e)]; exact e, fun b o u e => by rw [held_out (outH _ _ e)]; exact e, fun b ps e => ⟨#[], by rw [held_out (outH _ _ e), e]; simp⟩⟩ fun b u e => ?_
  by_cases hb : b ∈ fp
  · rw [held_in hb] at e
    cases e
    exact ⟨fun o e => e, (hn b hb).2, fun h1 h2 p q o e => q o (p o e)⟩
  · rw [held_out hb] at e
    exact (I.hok b u e).stay (fun c v _ q => k c v q) (fun c q => by rw [held_out (outH _ _ q)]; exact q) fun c xs q => by rw [held_out (outH _ _ q)]; exact q
theorem inv_unheld {pins : List (Addr × Obj)} {σ : L2.St} {H : Hp} {s : Shared} {g : Heap} {fp : List Addr} (I : Inv X pins σ (heldH H g fp) s) (hn : ∀ b ∈ fp, H b = none) : Inv X pins σ H s := by
  have same : ∀ b u, heldH H g fp b = some u → (∀ φ, u ≠ .ext φ) → H b = some u := fun b u e n => by
    by_cases hb : b ∈ fp
    · rw [held_in hb] at e; cases e; exact absurd rfl (n _)
    · rw [held_out hb] at e; exact e
  have back : ∀ b u, H b = some u → heldH H g fp b = some u := fun b u e => by
    rw [held_out (fun z => by rw [hn b z] at e; cases e)]; exact e
  refine I.un (t' := s.toks) ⟨fun _ _ e _ _ _ => e, fun _ o e _ _ _ => ⟨o.slots, e⟩, fun b o e n _ => ?_, fun _ o e _ => ⟨o, e⟩, fun b xs e => same b _ e fun φ z => (nomatch z), fun b o u e => same b _ e fun φ z => (nomatch z), fun b ps e => ⟨#[], by rw [same b _ e fun φ z => (nomatch z)]; simp⟩⟩ fun b u e => ?_
  · by_cases hb : b ∈ fp
    · exact hn b hb
    · rw [held_out hb] at n; exact n
  · exact (I.hok b u (back b u e)).stay (fun _ _ _ z => z) (fun c q => same c _ q fun φ z => (nomatch z)) fun c xs q => same c _ q fun φ z => (nomatch z)
theorem fp_unheld {pins : List (Addr × Obj)} {σ : L2.St} {H : Hp} {s : Shared} {g : Heap} {fp : List Addr} (I : Inv X pins σ (heldH H g fp) s) (hn : ∀ b ∈ fp, H b = none) {a : Addr} (ha : a ∈ fp) (hs : X.s_0.heap.objs.size ≤ a) : FpOk X pins H a := by
  have e := held_in (H := H) (g := g) ha
  refine ⟨hn a ha, fun z => ?_, fun z => ?_, .inr hs, fun x c q z => ?_, fun p hp z => ?_⟩
  · rw [z, I.free] at e; cases e
  · obtain ⟨_, o, ho, _⟩ := I.ok.funs.mem z
    exact absurd (Nat.lt_of_lt_of_le (Heap.lt_size ho) hs) (Nat.lt_irrefl _)
  · have q := I.freeC x c q
    rw [z, e] at q; cases q
  · have q := (I.pin p hp).2.1
    rw [z, e] at q; cases q
/-- zip of three tuples, made -/
def ZipMade (X : Cx) (pins : List (Addr × Obj)) (σ : L2.St) (R : Addr → Addr → Addr → Hp → Prop) (v : Value) (s1 : Shared) : Prop :=
  ∃ (z TI TO i1 i2 i3 a b c : Addr) (H1 : Hp), v = .ref z ∧ Inv X pins σ H1 s1 ∧ Zip3At z TI TO i1 i2 i3 a b c 0 s1.heap ∧ ZipSep3 z TI TO i1 i2 i3 [i1, a] [i2, b] [i3, c] ∧
    (∀ d ∈ [z, TI, TO, i1, i2, i3], FpOk X pins H1 d ∧ X.s_0.heap.objs.size ≤ d) ∧ R a b c H1 ∧ Inv X pins σ (heldH H1 s1.heap [z, TI, TO, i1, i2, i3]) s1
def rZip3 (K : PySem.W.Frag) (R : Addr → Addr → Addr → Hp → Prop) : List V → Hp → Prop := fun vs H1 => ∃ a b c, vs = [.ref a, .ref b, .ref c] ∧ (∃ xs, SqT K H1 a xs) ∧ (∃ xs, SqT K H1 b xs) ∧ (∃ xs, SqT K H1 c xs) ∧ R a b c H1
theorem zip3_made {e1 e2 e3 : Expr} {ta : TA} {p pos : Pos} {pins : List (Addr × Obj)} {s : Shared} {σ : L2.St} {H : Hp} {R : Addr → Addr → Addr → Hp → Prop} (hg : Gl X "zip") (hm : X.mg "zip" = none) (ha : PA X [e1, e2, e3] ta)
    (hs : starEach [e1, e2, e3] X.env = (false, eval e1 X.env) :: starEach [e2, e3] X.env) (hpl : (backTo pos (starEach [e2, e3] X.env)).any (·.1) = false) (I : Inv X pins σ H s) (h : ta σ H (rZip3 X.K R)) :
    wpAny (model X.prog X.w) X.A (eval (.Call (.Name "zip" p) [e1, e2, e3] [] pos) X.env) (ZipMade X pins σ R) X.xe s := by
  refine Call_ (ld_blt I hg hm PyProof.Rows.boot_zip (PyProof.Rows.callWith_type1 (thn (ha.run pos pins s σ H _ I h) fun us s1 ⟨vs, H1, I1, r1, q1⟩ => ?_) hs hpl))
  obtain ⟨a, b, c, ex, ⟨xs, hx⟩, ⟨ys, hy⟩, ⟨zs, hz⟩, q⟩ := q1
  subst ex
  cases r1 with
  | cons r rr =>
    cases rr with
    | cons r' rr =>
      cases rr with
      | cons r'' rr =>
        cases rr
        cases r
        cases r'
        cases r''
        obtain ⟨it1, rv1, p1, _⟩ := I1.tuple hx
        obtain ⟨it2, rv2, p2, _⟩ := I1.tuple hy
        obtain ⟨it3, rv3, p3, _⟩ := I1.tuple hz
        have la : a < s1.heap.objs.size := p1.lt
        have lb : b < s1.heap.objs.size := p2.lt
        have lc : c < s1.heap.objs.size := p3.lt
        refine zip_begins3 (begins_tuple a it1.toArray) (begins_tuple b it2.toArray) (begins_tuple c it3.toArray) p1 p2 p3 fun h' g1 g2 g3 g4 g5 g6 hsz hk => ?_
        have I2 : Inv X pins σ H1 { s1 with heap := h' } := I1.kept (t' := s1.toks) hk
        have lo : ∀ d ∈ [s1.heap.objs.size + 5, s1.heap.objs.size + 3, s1.heap.objs.size + 4, s1.heap.objs.size, s1.heap.objs.size + 1, s1.heap.objs.size + 2], s1.heap.objs.size ≤ d := fun d hd => by
          have e' : d = s1.heap.objs.size + 5 ∨ d = s1.heap.objs.size + 3 ∨ d = s1.heap.objs.size + 4 ∨ d = s1.heap.objs.size ∨ d = s1.heap.objs.size + 1 ∨ d = s1.heap.objs.size + 2 := by simpa using hd
          rcases e' with z | z | z | z | z | z
          · rw [z]; exact Nat.le_add_right _ _
          · rw [z]; exact Nat.le_add_right _ _
          · rw [z]; exact Nat.le_add_right _ _
          · rw [z]; exact Nat.le_refl _
          · rw [z]; exact Nat.le_add_right _ _
          · rw [z]; exact Nat.le_add_right _ _
        refine ⟨s1.heap.objs.size + 5, s1.heap.objs.size + 3, s1.heap.objs.size + 4, s1.heap.objs.size, s1.heap.objs.size + 1, s1.heap.objs.size + 2, a, b, c, H1, rfl, I2, ⟨g1, g2, ⟨_, _, _, g3⟩, ⟨_, g4, rfl, rfl⟩, ⟨_, g5, rfl, rfl⟩, ⟨_, g6, rfl, rfl⟩⟩,
          zip_sep3 (fun d hd => by rw [List.mem_singleton.mp hd]; exact la) (fun d hd => by rw [List.mem_singleton.mp hd]; exact lb) (fun d hd => by rw [List.mem_singleton.mp hd]; exact lc), fun d hd => ⟨I1.fpOk (lo d hd) (I1.hok.fresh (lo d hd)), Nat.le_trans I1.sz (lo d hd)⟩, q, inv_held I1 hk fun d hd => ⟨lo d hd, ?_⟩⟩
        have e' : d = s1.heap.objs.size + 5 ∨ d = s1.heap.objs.size + 3 ∨ d = s1.heap.objs.size + 4 ∨ d = s1.heap.objs.size ∨ d = s1.heap.objs.size + 1 ∨ d = s1.heap.objs.size + 2 := by simpa using hd
        rcases e' with z | z | z | z | z | z
        · rw [z]; exact ⟨_, g1⟩
        · rw [z]; exact ⟨_, g2⟩
        · rw [z]; exact ⟨_, g3⟩
        · rw [z]; exact ⟨_, g4⟩
        · rw [z]; exact ⟨_, g5⟩
        · rw [z]; exact ⟨_, g6⟩
def iZip3 (K : PySem.W.Frag) (ta : TA) : TI := fun σ H R => ta σ H (rZip3 K fun a b c H1 => R (Itz3 K a b c) H1)
theorem pi_zip3 {e1 e2 e3 : Expr} {ta : TA} {p pos tpos : Pos} {elts : List Expr} {kk : Nat} (hg : Gl X "zip") (hm : X.mg "zip" = none) (ha : PA X [e1, e2, e3] ta)
    (hs : starEach [e1, e2, e3] X.env = (false, eval e1 X.env) :: starEach [e2, e3] X.env) (hpl : (backTo pos (starEach [e2, e3] X.env)).any (·.1) = false) :
    PI X (.Tuple elts kk tpos) (.Call (.Name "zip" p) [e1, e2, e3] [] pos) (iZip3 X.K ta) := by
  refine ⟨fun pins s σ H R I h => ?_⟩
  refine thn (zip3_made hg hm ha hs hpl I h) fun v s1 ⟨z, TI, TO, i1, i2, i3, a, b, c, H1, ev, I1, za, D, f, q, _⟩ => ?_
  subst ev
  exact wpAny_pyIter_zip za.1 ⟨z, _, _, _, H1, rfl, I1, turn_zip3 D, za, fun d hd => (f d hd).1, q⟩
/-- the same, through a name -/
def iZv (K : PySem.W.Frag) (n i : Nat) : TI := fun σ H R => ∃ (z TI TO i1 i2 i3 a b c : Addr) (H0 : Hp) (g : Heap), σ[i]? = some (some (.ref z)) ∧ H = heldH H0 g [z, TI, TO, i1, i2, i3] ∧ Zip3At z TI TO i1 i2 i3 a b c 0 g ∧ ZipSep3 z TI TO i1 i2 i3 [i1, a] [i2, b] [i3, c] ∧
  (∀ d ∈ [z, TI, TO, i1, i2, i3], H0 d = none ∧ n ≤ d) ∧ R (Itz3 K a b c) H0
theorem pi_zv {i : Nat} {x : Str} {p tpos : Pos} {elts : List Expr} {kk : Nat} (hN : X.N[i]? = some x) (hv : Vis X.env.scope x) (hd : (x == ("__debug__" : Str)) = false) (hcd : (x == ("__classdict__" : Str)) = false) : PI X (.Tuple elts kk tpos) (.Name x p) (iZv X.K X.s_0.heap.objs.size i) := by
  refine ⟨fun pins s σ H R I h => ?_⟩
  obtain ⟨z, TI, TO, i1, i2, i3, a, b, c, H0, g, hs, eH, za, D, f, q⟩ := h
  refine thn ((pe_var (pos := p) (i := i) hN hv hd hcd).run pins s σ H (fun v H1 => v = .ref z ∧ H1 = H) I ⟨.ref z, hs, rfl, rfl⟩) fun u s1 ⟨v, H1, I1, r1, ev, e2⟩ => ?_
  subst ev
  subst e2
  subst eH
  cases r1
  have T : Turn X.prog X.w X.K (.Tuple elts kk tpos) (Itz3 X.K a b c) [z, TI, TO, i1, i2, i3] z (Zip3At z TI TO i1 i2 i3 a b c) := turn_zip3 D
  have zb : Zip3At z TI TO i1 i2 i3 a b c 0 s1.heap := T.keep _ _ _ za fun d hd o e => (I1.hok d _ (held_in hd)).1 o e
  exact wpAny_pyIter_zip zb.1 ⟨z, _, _, _, H0, rfl, inv_unheld I1 fun d hd => (f d hd).1, T, zb, fun d hd => fp_unheld I1 (fun d hd => (f d hd).1) hd (f d hd).2, q⟩
end

/-! ### the sources -/
section
variable {W : Wd} {m0 : List Addr} {H0 : Hp} {h0 : AH}
theorem src_tup {a : Addr} {vs : List V} {ds : List D} (q : SqT W.K H0 a vs) (r : Reps W.K m0 H0 ds vs) : SrcOk W (Src.fix ds) (Itt W.K a) m0 H0 := by
  refine ⟨fun i m H h d x rh hi hg => ?_, fun m H h x rh _ => ⟨vs, SqT.imm x.imm q, by show _ ≤ ds.length; rw [r.length]; exact Nat.le_refl _⟩⟩
  obtain ⟨v, e1, e2⟩ := (x.reps r).get (show ds[i]? = some d from hg)
  refine ⟨⟨vs, v, SqT.imm x.imm q, e1⟩, fun y H' hy => ?_⟩
  obtain ⟨rfl, hy⟩ := hy
  have := hy vs (SqT.imm x.imm q)
  rw [e1] at this
  cases this
  exact ⟨Ext.refl, rh, e2⟩
theorem src_lst {a : Addr} {vs : List V} {ds : List D} (q : ∀ m H, Ext [] m0 H0 m H → SqL W.K H a vs) (r : Reps W.K m0 H0 ds vs) : SrcOk W (Src.fix ds) (Itl W.K a) m0 H0 := by
  refine ⟨fun i m H h d x rh hi hg => ?_, fun m H h x rh _ => ⟨vs, q m H x, by show _ ≤ ds.length; rw [r.length]; exact Nat.le_refl _⟩⟩
  obtain ⟨v, e1, e2⟩ := (x.reps r).get (show ds[i]? = some d from hg)
  refine ⟨⟨vs, v, q m H x, e1⟩, fun y H' hy => ?_⟩
  obtain ⟨rfl, hy⟩ := hy
  have := hy vs (q m _ x)
  rw [e1] at this
  cases this
  exact ⟨Ext.refl, rh, e2⟩
theorem cellAt_ok {m : List Addr} {H : Hp} {h : AH} {n : Nat} {a : Addr} (rh : RelH W.K W.T m H h) (e : m[n]? = some a) : ∃ vs, H a = some (.lst vs) ∧ Reps W.K m H (cellAt n h) vs := by
  have hn : n < h.length := by rw [← rh.len]; exact (List.getElem?_eq_some_iff.mp e).1
  have e2 : h[n]? = some h[n] := by simp [hn]
  cases c : h[n] with
  | lst ds =>
    rw [c] at e2
    obtain ⟨vs, q1, q2⟩ := rh.cell n a ds e e2
    refine ⟨vs, q1, ?_⟩
    unfold cellAt
    rw [e2]
    exact q2
theorem src_cell {a : Addr} {n k : Nat} (e : m0[n]? = some a) : SrcOk W ⟨k, fun h i => (cellAt n h)[i]?, fun h => decide ((cellAt n h).length = k)⟩ (Itl W.K a) m0 H0 := by
  refine ⟨fun i m H h d x rh hi hg => ?_, fun m H h x rh hf => ?_⟩
  · obtain ⟨vs, q1, q2⟩ := cellAt_ok rh (x.ix n a e)
    obtain ⟨v, e1, e2⟩ := q2.get (show (cellAt n h)[i]? = some d from hg)
    have sq : SqL W.K H a vs := .inl (.inl q1)
    refine ⟨⟨vs, v, sq, e1⟩, fun y H' hy => ?_⟩
    obtain ⟨rfl, hy⟩ := hy
    have := hy vs sq
    rw [e1] at this
    cases this
    exact ⟨Ext.refl, rh, e2⟩
  · obtain ⟨vs, q1, q2⟩ := cellAt_ok rh (x.ix n a e)
    have hf : (cellAt n h).length = k := of_decide_eq_true hf
    exact ⟨vs, .inl (.inl q1), by rw [← q2.length, hf]; exact Nat.le_refl _⟩
theorem src_str (z : Str) : SrcOk W (Src.fix (z.cps.toList.map fun c => .str ⟨#[c]⟩)) (Its z) m0 H0 := by
  refine ⟨fun i m H h d x rh hi hg => ?_, fun m H h x rh _ => by show z.cps.size ≤ (z.cps.toList.map _).length; simp⟩
  have hg : (z.cps.toList.map fun c => D.str ⟨#[c]⟩)[i]? = some d := hg
  rw [List.getElem?_map] at hg
  have hi' : i < z.cps.size := by
    have : i < (z.cps.toList.map fun c => D.str ⟨#[c]⟩).length := hi
    simpa using this
  refine ⟨hi', fun y H' hy => ?_⟩
  obtain ⟨rfl, c, hc, rfl⟩ := hy
  have e : z.cps.toList[i]? = some c := by simpa using hc
  rw [e] at hg
  cases hg
  exact ⟨Ext.refl, rh, .str _⟩
theorem src_rng (lo : Int) (n : Nat) : SrcOk W ⟨n, fun _ i => some (.int (lo + (i : Nat))), fun _ => true⟩ (Itr lo n) m0 H0 := by
  refine ⟨fun i m H h d x rh hi hg => ⟨hi, fun y H' hy => ?_⟩, fun m H h x rh _ => Nat.le_refl n⟩
  obtain ⟨rfl, rfl⟩ := hy
  cases hg
  exact ⟨Ext.refl, rh, .int _⟩
theorem src_enum {a : Addr} {vs : List V} {ds : List D} (q : SqT W.K H0 a vs) (r : Reps W.K m0 H0 ds vs) : SrcOk W (Src.fix ds).enum (IteT W.K a) m0 H0 := by
  refine ⟨fun i m H h d x rh hi hg => ?_, fun m H h x rh _ => ⟨vs, SqT.imm x.imm q, r.length.symm⟩⟩
  have hg : (ds[i]?).map (fun x => D.tup [.int i, x]) = some d := hg
  cases e0 : ds[i]? with
  | none => rw [e0] at hg; cases hg
  | some d0 =>
    rw [e0] at hg
    cases hg
    obtain ⟨v, e1, e2⟩ := (x.reps r).get e0
    refine ⟨⟨vs, v, SqT.imm x.imm q, e1⟩, fun y H' hy => ?_⟩
    obtain ⟨T, v', rfl, hT, rfl, hy⟩ := hy
    have := hy vs (SqT.imm x.imm q)
    rw [e1] at this
    cases this
    have x2 : Ext [] m H m (upd H T (.tup [.int (i : Nat), v])) := Ext.new hT
    exact ⟨x2, rh.new hT, .tup (SqT.of upd_same) (x2.reps (.cons (.int _) (.cons e2 .nil)))⟩
theorem src_zip3 {a b c : Addr} {xs ys zs : List V} {ds es fs : List D} (q1 : SqT W.K H0 a xs) (r1 : Reps W.K m0 H0 ds xs) (q2 : SqT W.K H0 b ys) (r2 : Reps W.K m0 H0 es ys) (q3 : SqT W.K H0 c zs) (r3 : Reps W.K m0 H0 fs zs) (l1 : ds.length = es.length) (l2 : es.length = fs.length) :
    SrcOk W (Src.fix ((ds.zip (es.zip fs)).map fun p => .tup [p.1, p.2.1, p.2.2])) (Itz3 W.K a b c) m0 H0 := by
  have hl : ((ds.zip (es.zip fs)).map fun p => D.tup [p.1, p.2.1, p.2.2]).length = ds.length := by simp; omega
  refine ⟨fun i m H h d x rh hi hg => ?_, fun m H h x rh _ => ⟨xs, ys, zs, SqT.imm x.imm q1, SqT.imm x.imm q2, SqT.imm x.imm q3, ?_, ?_, ?_⟩⟩
  · have hi : i < ds.length := by rw [← hl]; exact hi
    have i2 : i < es.length := by omega
    have i3 : i < fs.length := by omega
    have hg : ((ds.zip (es.zip fs)).map fun p => D.tup [p.1, p.2.1, p.2.2])[i]? = some d := hg
    have e0 : ((ds.zip (es.zip fs)).map fun p => D.tup [p.1, p.2.1, p.2.2])[i]? = some (.tup [ds[i], es[i], fs[i]]) := by
      rw [List.getElem?_map, List.getElem?_eq_getElem (by simp; omega), List.getElem_zip, List.getElem_zip]
      rfl
    rw [e0] at hg
    cases hg
    obtain ⟨v1, g1, k1⟩ := (x.reps r1).get (show ds[i]? = some ds[i] by simp [hi])
    obtain ⟨v2, g2, k2⟩ := (x.reps r2).get (show es[i]? = some es[i] by simp [i2])
    obtain ⟨v3, g3, k3⟩ := (x.reps r3).get (show fs[i]? = some fs[i] by simp [i3])
    refine ⟨⟨xs, ys, zs, v1, v2, v3, SqT.imm x.imm q1, SqT.imm x.imm q2, SqT.imm x.imm q3, g1, g2, g3⟩, fun y H' hy => ?_⟩
    obtain ⟨T, w1, w2, w3, rfl, hT, rfl, y1, y2, y3⟩ := hy
    have e1 := y1 xs (SqT.imm x.imm q1)
    have e2 := y2 ys (SqT.imm x.imm q2)
    have e3 := y3 zs (SqT.imm x.imm q3)
    rw [g1] at e1
    rw [g2] at e2
    rw [g3] at e3
    cases e1
    cases e2
    cases e3
    have x2 : Ext [] m H m (upd H T (.tup [v1, v2, v3])) := Ext.new hT
    exact ⟨x2, rh.new hT, .tup (SqT.of upd_same) (x2.reps (.cons k1 (.cons k2 (.cons k3 .nil))))⟩
  · show xs.length = _; rw [show (Src.fix _).len = _ from hl, r1.length]
  · show ys.length = _; rw [show (Src.fix _).len = _ from hl, ← r2.length, l1]
  · show zs.length = _; rw [show (Src.fix _).len = _ from hl, ← r3.length, l1, l2]
end
end Mill

set_option Elab.async false
set_option linter.all false
set_option maxRecDepth 100000
set_option maxHeartbeats 4000000
/-! Mill10: reversal, iterators, targets, comprehensions. -/
namespace Mill
open PySem PySem.Spec PyProof.Rows L2

/-! ### [::-1] -/
theorem adjust_rev (n : Nat) : Builtin.Slice.sliceAdjust none none (-1) (n : Int) = ((n : Int) - 1, -1) := by
  unfold Builtin.Slice.sliceAdjust
  simp
theorem places_rev (n : Nat) : Builtin.Slice.slicePlaces ((n : Int) - 1) (-1) (-1) = n := by
  unfold Builtin.Slice.slicePlaces
  have h1 : ¬ ((-1 : Int) > 0) := by omega
  simp only [h1, if_false]
  by_cases h : (n : Int) - 1 > -1
  · rw [if_pos h, show (- -1 : Int) = 1 from rfl, Int.ediv_one]
    omega
  · rw [if_neg h]
    omega
theorem range_pick {α : Type} : ∀ (ys : List α) (f : Nat → Option α), (∀ i, i < ys.length → f i = ys[i]?) → (List.range ys.length).filterMap f = ys
  | [], f, _ => rfl
  | y :: ys, f, h => by
    rw [List.length_cons, List.range_succ_eq_map, List.filterMap_cons, h 0 (by simp)]
    simp only [List.getElem?_cons_zero, List.filterMap_map]
    rw [range_pick ys (f ∘ Nat.succ) fun i hi => by simpa using h (i + 1) (by simpa using hi)]
theorem pick_rev (xs : List Value) : ((List.range xs.length).filterMap fun (m : Nat) => xs.toArray[((xs.length : Int) - 1 + (m : Int) * -1).toNat]?) = xs.reverse := by
  have e := range_pick xs.reverse (fun (m : Nat) => xs.toArray[((xs.length : Int) - 1 + (m : Int) * -1).toNat]?) fun i hi => by
    rw [List.length_reverse] at hi
    have e1 : ((xs.length : Int) - 1 + (i : Int) * -1).toNat = xs.length - 1 - i := by omega
    rw [e1, List.getElem?_toArray, List.getElem?_reverse hi]
  rw [List.length_reverse] at e
  exact e
section
variable {prog : Program} {w : World} {A : Around} {E : Value → Shared → Prop} {s : Shared}
theorem sliceApplied_rev {sl : Addr} {n : Nat} {Q : Int × Int × Nat → Shared → Prop} {t : Tok} (hs : s.heap.IsSliceOf sl .none .none (.int (-1) t))
    (h : Q ((n : Int) - 1, -1, n) s) : wpAny (model prog w) A (Builtin.Slice.sliceApplied (.ref sl) (pure (n : Int))) Q E s := by
  obtain ⟨os, hos, hcs, hds⟩ := id hs
  unfold Builtin.Slice.sliceApplied Builtin.Slice.sliceFields
  refine wpAny_bind (wpAny_bind (wpAny_field hos hds (x := .none) rfl (wpAny_bind (wpAny_field hos hds (x := .none) rfl (wpAny_bind (wpAny_field hos hds (x := .int (-1) t) rfl (wpAny_pure ?_)))))))
  refine wpAny_bind (slicePart_int ?_)
  show wpAny _ _ (if ((-1 : Int) == 0) = true then _ else _) _ _ s
  rw [if_neg (by decide)]
  refine wpAny_bind (slicePart_none (wpAny_bind (slicePart_none (wpAny_bind (wpAny_pure ?_)))))
  show wpAny _ _ (match Builtin.Slice.sliceAdjust none none (-1) (n : Int) with | (lo, hi) => pure (lo, (-1 : Int), Builtin.Slice.slicePlaces lo hi (-1))) _ _ s
  rw [adjust_rev n]
  show wpAny _ _ (pure ((n : Int) - 1, (-1 : Int), Builtin.Slice.slicePlaces ((n : Int) - 1) (-1) (-1))) _ _ s
  rw [places_rev]
  exact wpAny_pure h
theorem getItem_tuple_rev {a sl : Addr} {xs : List Value} {t : Tok} {Q : Value → Shared → Prop} (ht : IsTup s.heap a xs.toArray) (hs : s.heap.IsSliceOf sl .none .none (.int (-1) t))
    (h : Q (.ref s.heap.objs.size) { s with heap := s.heap.push { cls := .type "tuple", data := .seq xs.reverse.toArray } })
    (hsz : xs.length ≤ sizeLine) : wpAny (model prog w) A (getItem (.ref a) (.ref sl)) Q E s := by
  have htake : sizeOk (.seq xs.reverse.toArray) := by
    show xs.reverse.toArray.size ≤ sizeLine
    rw [List.size_toArray, List.length_reverse]
    exact hsz
  obtain ⟨os, hos, hcs, hds⟩ := id hs
  have hTs : s.TypeIs (.ref sl) "slice" := ⟨os, hos, hcs⟩
  unfold getItem
  try with_reducible refine wpAny_holding ?_
  first | refine wpAny_bind (wpAny_pure ?_) | skip
  refine wpAny_bind (wpAny_sequenceKey ht.typeIs (by decide) ?_)
  refine wpAny_bind (wpAny_callSpecial?_slot (name := Str.ofString "__getitem__") ht.typeIs PyProof.Rows.slot_tuple_getitem
    (wpAny_call_entry PyProof.Rows.slot_tuple_getitem ht.typeIs entry_tuple_getitem ?_ (args_tuple_getitem _ _)))
  show wpAny _ _ (Builtin.Tuple.tupleItemsOf (.ref a) >>= _) _ _ s
  refine wpAny_bind (tupleItemsOf_ ht ?_)
  refine wpAny_bind (wpAny_typeOf hTs ?_)
  rw [if_pos (by decide)]
  refine wpAny_bind (sliceApplied_rev (n := xs.toArray.size) hs ?_)
  show wpAny _ _ (if (((xs.toArray.size : Int) - 1) == 0 && (-1 : Int) == 1 && xs.toArray.size == xs.toArray.size) = true then _ else _) _ _ s
  have hno : ¬ ((((xs.toArray.size : Int) - 1) == 0 && (-1 : Int) == 1 && xs.toArray.size == xs.toArray.size) = true) := by
    intro q
    rw [Bool.and_eq_true, Bool.and_eq_true] at q
    exact absurd q.1.2 (by decide)
  rw [if_neg hno]
  have e : ((List.range xs.toArray.size).filterMap fun (m : Nat) => xs.toArray[((xs.toArray.size : Int) - 1 + (m : Int) * -1).toNat]?).toArray = xs.reverse.toArray := by
    rw [List.size_toArray, pick_rev]
  rw [e]
  first
    | exact wpAny_bind (m := Builtin.Tuple.tupleExact _) (wpAny_newObj_type (wpAny_pure ⟨_, rfl, wpAny_pure h⟩) htake)
    | exact wpAny_bind (m := Builtin.Tuple.tupleExact _) (wpAny_newObj_type (wpAny_bind (wpAny_pure (wpAny_pure ⟨_, rfl, wpAny_pure h⟩))) htake)
    | exact wpAny_bind (wpAny_bind (m := Builtin.Tuple.tupleExact _) (wpAny_newObj_type (wpAny_pure (wpAny_pure ⟨_, rfl, wpAny_pure h⟩)) htake))
    | exact wpAny_bind (wpAny_bind (m := Builtin.Tuple.tupleExact _) (wpAny_newObj_type (wpAny_pure ⟨_, rfl, wpAny_pure h⟩) htake))
end
section
variable {X : Cx}
/-- of a list, of a tuple -/
def tRevA (K : PySem.W.Frag) (te : TE) : TE := fun σ H Q => te σ H fun x H1 => (∃ a xs, x = .ref a ∧ SqL K H1 a xs ∧ ∀ p, H1 p = none → Q (.ref p) (upd H1 p (.lst xs.reverse))) ∨
  ∃ a xs, x = .ref a ∧ SqT K H1 a xs ∧ ∀ p, H1 p = none → Q (.ref p) (upd H1 p (.tup xs.reverse))
theorem pe_revA {e : Expr} {te : TE} {k : Nat} {p1 p2 p3 pos : Pos} (he : PE X e te) : PE X (.Subscript e (.Slice none none (some (.UnaryOp .USub (.Constant (.int 1) k p1) p2)) p3) pos) (tRevA X.K te) := by
  refine ⟨fun pins s σ H Q I h => ?_⟩
  refine Subscript_ (thn (he.run pins s σ H _ I h) fun v s1 ⟨x, H1, I1, r1, q1⟩ => ?_)
  have hst : PO X (some (.UnaryOp .USub (.Constant (.int 1) k p1) p2)) (tPart (tUn (rU fun i => .int (-i)) (tC (.int 1)))) := po_some (pe_un un_neg pe_int)
  refine wpAny_Slice (thn (po_none.run pins s1 σ H1 (fun o H2 => o = none ∧ H2 = H1) I1 ⟨rfl, rfl⟩) fun vl s2 ⟨l, H2, I2, pl, el, e2⟩ => ?_)
  subst el e2
  refine thn (po_none.run pins s2 σ H2 (fun o H3 => o = none ∧ H3 = H2) I2 ⟨rfl, rfl⟩) fun vu s3 ⟨u, H3, I3, pu, eu, e3⟩ => ?_
  subst eu e3
  refine thn (hst.run pins s3 σ H3 (fun o H4 => o = some (-1) ∧ H4 = H3) I3 ⟨1, rfl, -1, rfl, rfl, rfl⟩) fun vs s4 ⟨o, H4, I4, ps, eo, e4⟩ => ?_
  subst eo e4
  have I5 : Inv X pins σ H4 { s4 with heap := s4.heap.push { cls := .type "slice", data := .fields #[vl, vu, vs] } } := I4.kept (t' := s4.toks) fun b ob q => Heap.get?_push_of_some _ q
  rcases q1 with ⟨a, xs, ex, hx, q⟩ | ⟨a, xs, ex, hx, q⟩
  · subst ex
    cases r1
    obtain ⟨its, r, ht, hz⟩ := I5.list hx
    have hlen := r.length
    show wpAny (model X.prog X.w) X.A (subscriptTail e (.Slice none none (some (.UnaryOp .USub (.Constant (.int 1) k p1) p2)) p3) (.ref a) (.ref s4.heap.objs.size)) (EP X pins σ Q) X.xe { s4 with heap := s4.heap.push { cls := .type "slice", data := .fields #[vl, vu, vs] } }
    refine tail_any (ops := [.ref a, .ref s4.heap.objs.size]) ht.isList.typeIs (PySem.slot_list_getitem.lookup) ?_ (by with_unfolding_all rfl)
    refine wpAny_getItem_list_slice ht.isList (Heap.IsSliceOf.new _ vl vu vs) pl pu ps (by decide) ?_ (by rw [List.size_toArray]; omega)
    rw [PySem.W.krv_pick]
    refine ⟨.ref _, _, I5.laid (t' := s4.toks) (o := .lst xs.reverse) (fun b ob q => Heap.get?_push_of_some _ q) (Nat.le_refl _) ?_, rfl, q _ (I5.hok.fresh (Nat.le_refl _))⟩
    exact ⟨by rw [List.length_reverse]; exact hz, _, 0, r.reverse, Heap.get?_push_size _ rfl⟩
  · subst ex
    cases r1
    obtain ⟨its, r, ht, hz⟩ := I5.tuple hx
    have hlen := r.length
    cases pl
    cases pu
    cases ps with
    | int _ t =>
      show wpAny (model X.prog X.w) X.A (subscriptTail e (.Slice none none (some (.UnaryOp .USub (.Constant (.int 1) k p1) p2)) p3) (.ref a) (.ref s4.heap.objs.size)) (EP X pins σ Q) X.xe { s4 with heap := s4.heap.push { cls := .type "slice", data := .fields #[.none, .none, .int (-1) t] } }
      refine tail_any (ops := [.ref a, .ref s4.heap.objs.size]) ht.typeIs (PyProof.Rows.slot_tuple_getitem.lookup) ?_ (by with_unfolding_all rfl)
      refine getItem_tuple_rev ht (Heap.IsSliceOf.new _ _ _ _) ?_ (by omega)
      refine ⟨.ref _, _, I5.laid (t' := s4.toks) (o := .tup xs.reverse) (fun b ob q => Heap.get?_push_of_some _ q) (Nat.le_refl _) ?_, rfl, q _ (I5.hok.fresh (Nat.le_refl _))⟩
      exact ⟨by rw [List.length_reverse]; exact hz, _, r.reverse, IsTup.new _ _⟩
end
section
variable {W : Wd} {C : Cfg} {N fns : List Str} {lev : Nat} {sc : Scope} {X : Cx} {xw : WX} {σ : L2.St} {m m1 : List Addr} {H H1 : Hp} {h h1 : AH}
theorem snd_rev {e : Expr} {x : E} {k : Nat} {p1 p2 p3 pos : Pos} (O : Ok W C N fns lev sc X xw) (he : PE X e (rdE W C xw x)) : PE X (.Subscript e (.Slice none none (some (.UnaryOp .USub (.Constant (.int 1) k p1) p2)) p3) pos) (rdE W C xw (.rev x)) := by
  refine pe_mono (pe_revA he) fun σ H Q h => ?_
  obtain ⟨m, h, ρ, rh, s, p⟩ := h
  refine one_then (β := V) (G2 := fun _ _ _ _ _ => True) rh s p fun m2 H2 h2 t v F x2 r2 _ q1 _ p2 => ?_
  have p3 := post_reT p2 x2
  rw [O.hK]
  unfold revT at p3
  split at p3
  · obtain ⟨b, vs, rfl, g1, g2⟩ := q1.tup
    exact .inr ⟨b, vs, rfl, g1, fun c hc => post_tup p3 r2 g2.reverse hc⟩
  · cases e1 : viewL t h2 with
    | none => rw [e1] at p3; exact p3.elim
    | some ds =>
      rw [e1] at p3
      obtain ⟨b, vs, rfl, g1, g2⟩ := q1.viewL r2 e1
      exact .inl ⟨b, vs, rfl, g1, fun c hc => post_lst p3 r2 g2.reverse hc⟩

/-! ### iterators -/
theorem pi_mono {tg e : Expr} {t u : TI} (h : PI X tg e t) (k : ∀ σ H Q, u σ H Q → t σ H Q) : PI X tg e u := ⟨fun pins s σ H Q I q => h.run pins s σ H Q I (k σ H Q q)⟩
theorem sni_seq {tg e : Expr} {x : E} (O : Ok W C N fns lev sc X xw) (he : PE X e (rdE W C xw x)) : PI X tg e (rdI W C xw (.seq x)) := by
  refine pi_mono (pi_any he) fun σ H R h => ?_
  obtain ⟨m, h, ρ, rh, s, p⟩ := h
  refine ⟨m, h, ρ, rh, s, ?_⟩
  have p : Post W xw σ m H (GS W) ((evE C x ρ h).bind fun t h1 => (match srcT t h1 with | some s => .ok s h1 | none => .err)) R := p
  refine post_mono (post_bind (G := GT W H) p) fun v H1 hh => ?_
  obtain ⟨m1, h1, t, x1, r1, ⟨F, q1, fr⟩, p1⟩ := hh
  rw [O.hK]
  cases e1 : srcT t h1 with
  | none => rw [e1] at p1; exact p1.elim
  | some sr =>
    rw [e1] at p1
    have fin : ∀ J, SrcOk W sr J m1 H1 → R J H1 := fun J g => p1 m1 H1 J x1 r1 g
    unfold srcT at e1
    split at e1
    · cases e1
      obtain ⟨b, vs, rfl, g1, g2⟩ := q1.tup
      exact .inr (.inl ⟨b, rfl, ⟨vs, g1⟩, fin _ (src_tup g1 g2)⟩)
    · cases e1
      obtain ⟨q1, _⟩ := q1
      cases q1 with
      | @fro b vs ds g1 g2 => exact .inl ⟨b, rfl, ⟨vs, g1.l⟩, fin _ (src_lst (fun m H x => (SqF.imm x.imm g1).l) g2)⟩
    · cases e1
      obtain ⟨b, vs, rfl, g1, g2, g3, _⟩ := q1
      refine .inl ⟨b, rfl, ⟨vs, .inl (.inl g1)⟩, fin _ (src_lst (fun m H x => .inl (.inl (x.keep _ _ g1 g3 (by simp) fun ps z => by cases z))) g2)⟩
    · cases e1
      rw [q1.str]
      exact .inr (.inr ⟨_, rfl, fin _ (src_str _)⟩)
    · rename_i n
      obtain ⟨q1, _⟩ := q1
      cases q1 with
      | @ref _ b hn =>
        cases hc : h1[n]? with
        | none => rw [hc] at e1; cases e1
        | some c =>
          cases c with
          | lst ds =>
            rw [hc] at e1
            cases e1
            obtain ⟨vs, g1, g2⟩ := r1.cell n b ds hn hc
            exact .inl ⟨b, rfl, ⟨vs, .inl (.inl g1)⟩, fin _ (src_cell hn)⟩
    · cases e1
end
end Mill

set_option Elab.async false
set_option linter.all false
set_option maxRecDepth 100000
set_option maxHeartbeats 4000000
/-! Mill11: range, enumerate, zip; targets; comprehensions. -/
namespace Mill
open PySem PySem.Spec PyProof.Rows L2
section
variable {W : Wd} {C : Cfg} {N fns : List Str} {lev : Nat} {sc : Scope} {X : Cx} {xw : WX} {σ : L2.St} {m m1 : List Addr} {H H1 : Hp} {h h1 : AH}
theorem optI_ok {t : Tm} {v : V} {F : List Addr} {j : Int} {K : PySem.W.Frag} (e : optI t = some j) (q : RepT K m H t v F) : v = .int j := by
  unfold optI at e
  split at e
  · cases e; exact q.int
  · cases e
theorem sni_rng1 {tg a : Expr} {x : E} {p pos : Pos} (O : Ok W C N fns lev sc X xw) (hg : sc.names.lookup ("range" : Str) = some .globalImplicit) (ha : PE X a (rdE W C xw x)) (st : starEach [a] X.env = [(false, eval a X.env)]) : PI X tg (.Call (.Name "range" p) [a] [] pos) (rdI W C xw (.rng1 x)) := by
  refine pi_mono (pi_range1 (show X.env.scope.names.lookup _ = _ by rw [O.hsc]; exact hg) (O.blt "range" (.inr (.inl (by decide +kernel)))) (pa_cons ha pa_nil st) st) fun σ H R h => ?_
  obtain ⟨m, h, ρ, rh, s, p⟩ := h
  refine ⟨m, h, ρ, rh, s, ?_⟩
  refine post_mono (post_bind (G := GT W H) p) fun v H1 hh => ?_
  obtain ⟨m1, h1, t, x1, r1, ⟨F, q1, f1⟩, p1⟩ := hh
  cases e : optI t with
  | none => rw [e] at p1; exact p1.elim
  | some j =>
    rw [e] at p1
    by_cases hj : -(2 ^ 62) ≤ j ∧ j < 2 ^ 62
    · simp only [if_pos hj] at p1
      exact ⟨j, by rw [optI_ok e q1], hj.1, hj.2, p1 m1 H1 _ x1 r1 (src_rng 0 j.toNat)⟩
    · simp only [if_neg hj] at p1; exact p1.elim
theorem sni_rng2 {tg a b : Expr} {x y : E} {p pos : Pos} (O : Ok W C N fns lev sc X xw) (hg : sc.names.lookup ("range" : Str) = some .globalImplicit) (ha : PE X a (rdE W C xw x)) (hb : PE X b (rdE W C xw y)) (st : starEach [a, b] X.env = (false, eval a X.env) :: starEach [b] X.env) (st2 : starEach [b] X.env = [(false, eval b X.env)]) :
    PI X tg (.Call (.Name "range" p) [a, b] [] pos) (rdI W C xw (.rng2 x y)) := by
  refine pi_mono (pi_range2 (show X.env.scope.names.lookup _ = _ by rw [O.hsc]; exact hg) (O.blt "range" (.inr (.inl (by decide +kernel)))) (pa_cons ha (pa_cons hb pa_nil st2) st) (by rw [st, st2]) st2) fun σ H R h => ?_
  obtain ⟨m, h, ρ, rh, s, p⟩ := h
  refine ⟨m, h, ρ, rh, s, ?_⟩
  refine post_mono (post_bind (G := GT W H) p) fun v H1 hh => ?_
  obtain ⟨m1, h1, t, x1, r1, ⟨F, q1, f1⟩, p1⟩ := hh
  refine ⟨m1, h1, ρ, r1, x1.rels s, ?_⟩
  refine post_mono (post_bind (G := GT W H1) (post_re p1 x1 (G' := GS W) fun _ _ _ _ g => g)) fun w H2 hh => ?_
  obtain ⟨m2, h2, u, x2, r2, ⟨G, q2, f2⟩, p2⟩ := hh
  cases e : optI t with
  | none => rw [e] at p2; exact p2.elim
  | some i =>
    cases e2 : optI u with
    | none => rw [e, e2] at p2; exact p2.elim
    | some j =>
      rw [e, e2] at p2
      by_cases hj : -(2 ^ 62) ≤ i ∧ i < 2 ^ 62 ∧ -(2 ^ 62) ≤ j ∧ j < 2 ^ 62
      · simp only [if_pos hj] at p2
        exact ⟨i, j, by rw [optI_ok e q1, optI_ok e2 q2], hj, p2 m2 H2 _ x2 r2 (src_rng i (j - i).toNat)⟩
      · simp only [if_neg hj] at p2; exact p2.elim
theorem sni_enum {elts : List Expr} {kk : Nat} {tpos : Pos} {a : Expr} {x : E} {p pos : Pos} (O : Ok W C N fns lev sc X xw) (hg : sc.names.lookup ("enumerate" : Str) = some .globalImplicit) (ha : PE X a (rdE W C xw x)) (st : starEach [a] X.env = [(false, eval a X.env)]) : PI X (.Tuple elts kk tpos) (.Call (.Name "enumerate" p) [a] [] pos) (rdI W C xw (.enum x)) := by
  refine pi_mono (pi_enumT (show X.env.scope.names.lookup _ = _ by rw [O.hsc]; exact hg) (O.blt "enumerate" (.inr (.inl (by decide +kernel)))) (pa_cons ha pa_nil st) st) fun σ H R h => ?_
  obtain ⟨m, h, ρ, rh, s, p⟩ := h
  refine ⟨m, h, ρ, rh, s, ?_⟩
  refine post_mono (post_bind (G := GT W H) p) fun v H1 hh => ?_
  obtain ⟨m1, h1, t, x1, r1, ⟨F, q1, f1⟩, p1⟩ := hh
  rw [O.hK]
  split at p1
  · obtain ⟨b, vs, rfl, g1, g2⟩ := q1.tup
    exact ⟨b, vs, rfl, g1, p1 m1 H1 _ x1 r1 (src_enum g1 g2)⟩
  · exact p1.elim
def rdZ (W : Wd) (C : Cfg) (xw : WX) (x y z : E) : L2.St → Hp → (Addr → Addr → Addr → Hp → Prop) → Prop := fun σ H R => ∃ m h ρ, RelH W.K W.T m H h ∧ RelS W.K m H ρ σ ∧ Post W xw σ m H (fun (s : Src) (abc : Addr × Addr × Addr) m1 H1 => SrcOk W s (Itz3 W.K abc.1 abc.2.1 abc.2.2) m1 H1) (evI C (.zip3 x y z) ρ h) (fun abc H1 => R abc.1 abc.2.1 abc.2.2 H1)
theorem zip3_args {a b c : Expr} {x y z : E} (ha : PE X a (rdE W C xw x)) (hb : PE X b (rdE W C xw y)) (hc : PE X c (rdE W C xw z)) (st : starEach [a, b, c] X.env = (false, eval a X.env) :: starEach [b, c] X.env) (st2 : starEach [b, c] X.env = (false, eval b X.env) :: starEach [c] X.env) (st3 : starEach [c] X.env = [(false, eval c X.env)])
    {R : Addr → Addr → Addr → Hp → Prop} (h : rdZ W C xw x y z σ H R) : tCons (rdE W C xw x) (tCons (rdE W C xw y) (tCons (rdE W C xw z) tNil)) σ H (rZip3 W.K R) := by
  obtain ⟨m, h, ρ, rh, s, p⟩ := h
  refine ⟨m, h, ρ, rh, s, ?_⟩
  refine post_mono (post_bind (G := GT W H) p) fun v H1 hh => ?_
  obtain ⟨m1, h1, t, x1, r1, ⟨F, q1, f1⟩, p1⟩ := hh
  refine ⟨m1, h1, ρ, r1, x1.rels s, ?_⟩
  refine post_mono (post_bind (G := GT W H1) (post_re p1 x1 (G' := fun (s : Src) (abc : Addr × Addr × Addr) m1 H1 => SrcOk W s (Itz3 W.K abc.1 abc.2.1 abc.2.2) m1 H1) fun _ _ _ _ g => g)) fun w H2 hh => ?_
  obtain ⟨m2, h2, u, x2, r2, ⟨G, q2, f2⟩, p2⟩ := hh
  refine ⟨m2, h2, ρ, r2, (x1.trans0 x2).rels s, ?_⟩
  refine post_mono (post_bind (G := GT W H2) (post_re p2 x2 (G' := fun (s : Src) (abc : Addr × Addr × Addr) m1 H1 => SrcOk W s (Itz3 W.K abc.1 abc.2.1 abc.2.2) m1 H1) fun _ _ _ _ g => g)) fun w3 H3 hh => ?_
  obtain ⟨m3, h3, u3, x3, r3, ⟨G3, q3, f3⟩, p3⟩ := hh
  split at p3
  · rename_i xs ys zs
    by_cases hl : xs.length = ys.length ∧ ys.length = zs.length
    · rw [if_pos hl] at p3
      obtain ⟨b1, vs1, rfl, g1, k1⟩ := (q1.ext (x2.trans0 x3)).tup
      obtain ⟨b2, vs2, rfl, g2, k2⟩ := (q2.ext x3).tup
      obtain ⟨b3, vs3, rfl, g3, k3⟩ := q3.tup
      exact ⟨b1, b2, b3, rfl, ⟨vs1, g1⟩, ⟨vs2, g2⟩, ⟨vs3, g3⟩, p3 m3 H3 (b1, b2, b3) x3 r3 (src_zip3 g1 k1 g2 k2 g3 k3 hl.1 hl.2)⟩
    · rw [if_neg hl] at p3; exact p3.elim
  · exact p3.elim
theorem sni_zip3 {elts : List Expr} {kk : Nat} {tpos : Pos} {a b c : Expr} {x y z : E} {p pos : Pos} (O : Ok W C N fns lev sc X xw) (hg : sc.names.lookup ("zip" : Str) = some .globalImplicit) (ha : PE X a (rdE W C xw x)) (hb : PE X b (rdE W C xw y)) (hc : PE X c (rdE W C xw z))
    (st : starEach [a, b, c] X.env = (false, eval a X.env) :: starEach [b, c] X.env) (st2 : starEach [b, c] X.env = (false, eval b X.env) :: starEach [c] X.env) (st3 : starEach [c] X.env = [(false, eval c X.env)]) :
    PI X (.Tuple elts kk tpos) (.Call (.Name "zip" p) [a, b, c] [] pos) (rdI W C xw (.zip3 x y z)) := by
  refine pi_mono (pi_zip3 (show X.env.scope.names.lookup _ = _ by rw [O.hsc]; exact hg) (O.blt "zip" (.inr (.inl (by decide +kernel)))) (pa_cons ha (pa_cons hb (pa_cons hc pa_nil st3) st2) st) st (by rw [st2, st3]; rfl)) fun σ H R h => ?_
  obtain ⟨m, h, ρ, rh, s, p⟩ := h
  unfold iZip3
  rw [O.hK]
  refine zip3_args ha hb hc st st2 st3 ⟨m, h, ρ, rh, s, ?_⟩
  generalize evI C (.zip3 x y z) ρ h = r at p
  cases r with
  | ok sr h1 => exact fun m1 H1 abc x1 r1 g => p m1 H1 _ x1 r1 g
  | exc c w h1 => exact p
  | err => exact p

/-! ### targets -/
theorem wipe_get (σ : L2.St) (i : Nat) : ∀ vs : List Nat, (wipe σ vs)[i]? = if i ∈ vs then σ[i]?.map (fun _ => none) else σ[i]?
  | [] => by simp [wipe]
  | v :: vs => by
    unfold wipe
    rw [List.getElem?_set, wipe_get σ i vs, wipe_length]
    by_cases hv : v = i
    · subst hv
      simp only [List.mem_cons, true_or, if_true]
      by_cases hl : v < σ.length
      · simp [hl]
      · simp [hl]
    · have hv' : ¬ i = v := fun z => hv z.symm
      simp [hv, hv']
theorem wipe_eq {σ τ : L2.St} {vs : List Nat} (hl : σ.length = τ.length) (h : ∀ i, i ∉ vs → σ[i]? = τ[i]?) : wipe σ vs = wipe τ vs := by
  apply List.ext_getElem?
  intro i
  rw [wipe_get, wipe_get]
  by_cases hi : i ∈ vs
  · rw [if_pos hi, if_pos hi]
    by_cases hl2 : i < σ.length
    · rw [List.getElem?_eq_getElem hl2, List.getElem?_eq_getElem (by rw [← hl]; exact hl2)]; rfl
    · rw [List.getElem?_eq_none (by omega), List.getElem?_eq_none (by omega)]
  · rw [if_neg hi, if_neg hi]; exact h i hi
def gNames : List Nat → TGs
  | [] => gNil
  | i :: is => gCons (gName i) (gNames is)
def gTg (K : PySem.W.Frag) : Tg → TG
  | .nm i => gName i
  | .tp is => gTup K is.length (gNames is)
theorem set_off {ρ : Sl} {σ0 : L2.St} {i : Nat} {d : D} {v : V} {is : List Nat} (hl : ρ.length = σ0.length) (off : ∀ j d, j ∉ i :: is → ρ[j]? = some (some d) → ∃ v, σ0[j]? = some (some v) ∧ Rep W.K m H d v) (q : Rep W.K m H d v) :
    ∀ j d', j ∉ is → (ρ.set i (some d))[j]? = some (some d') → ∃ v', (σ0.set i (some v))[j]? = some (some v') ∧ Rep W.K m H d' v' := fun j d' hj e => by
  by_cases hi : i = j
  · subst hi
    by_cases hz : i < ρ.length
    · rw [List.getElem?_set_self hz] at e
      cases e
      exact ⟨v, by rw [List.getElem?_set_self (by rw [← hl]; exact hz)], q⟩
    · rw [List.getElem?_eq_none (by simpa using hz)] at e; cases e
  · rw [List.getElem?_set_ne hi] at e
    rw [List.getElem?_set_ne hi]
    exact off j d' (by simp only [List.mem_cons, not_or]; exact ⟨fun z => hi z.symm, hj⟩) e
theorem names_ok {Q : L2.St → Hp → Prop} : ∀ (is : List Nat) (ds : List D) (vs : List V) (ρ : Sl) (σ0 : L2.St), Reps W.K m H ds vs → ds.length = is.length → ρ.length = σ0.length →
    (∀ j d, j ∉ is → ρ[j]? = some (some d) → ∃ v, σ0[j]? = some (some v) ∧ Rep W.K m H d v) →
    (∀ σ', RelS W.K m H ((is.zip ds).foldl (fun r p => r.set p.1 (some p.2)) ρ) σ' → σ'.length = σ0.length → (∀ j, j ∉ is → σ'[j]? = σ0[j]?) → Q σ' H) → gNames is vs σ0 H Q
  | [], ds, vs, ρ, σ0, r, hn, hl, off, k => by
    cases ds with
    | cons _ _ => simp at hn
    | nil => cases r; exact ⟨rfl, k σ0 ⟨hl, fun j d e => off j d (by simp) e⟩ rfl fun _ _ => rfl⟩
  | i :: is, ds, vs, ρ, σ0, r, hn, hl, off, k => by
    cases ds with
    | nil => simp at hn
    | cons d ds =>
      cases r with
      | @cons _ v _ vs q r =>
        refine ⟨v, vs, rfl, ?_⟩
        refine names_ok is ds vs (ρ.set i (some d)) (σ0.set i (some v)) r (by simpa using hn) (by simpa using hl) (set_off hl off q) fun σ' hr hl' hk => ?_
        refine k σ' hr (by simpa using hl') fun j hj => ?_
        simp only [List.mem_cons, not_or] at hj
        rw [hk j hj.2, List.getElem?_set_ne (fun z => hj.1 z.symm)]
theorem tg_ok {Q : L2.St → Hp → Prop} {K : PySem.W.Frag} (hK : K = W.K) {t : Tg} {x : D} {v : V} {ρ ρ' : Sl} {σ0 : L2.St} (e : setTg t x ρ = some ρ') (q : Rep W.K m H x v) (hl : ρ.length = σ0.length)
    (off : ∀ j d, j ∉ t.slots → ρ[j]? = some (some d) → ∃ v, σ0[j]? = some (some v) ∧ Rep W.K m H d v)
    (k : ∀ σ', RelS W.K m H ρ' σ' → σ'.length = σ0.length → (∀ j, j ∉ t.slots → σ'[j]? = σ0[j]?) → Q σ' H) : gTg K t v σ0 H Q := by
  subst hK
  cases t with
  | nm i =>
    cases e
    refine k _ ⟨by simpa using hl, fun j d e => set_off (is := []) hl off q j d (by simp) e⟩ (by simp) fun j hj => ?_
    rw [List.getElem?_set_ne (fun z => hj (by rw [← z]; simp [Tg.slots]))]
  | tp is =>
    unfold setTg at e
    split at e
    · rename_i z; cases z
    · rename_i is' z
      cases z
      split at e
      · rename_i ds
        cases q with
        | tup g r =>
          by_cases hn : ds.length = is.length
          · rw [if_pos hn] at e
            cases e
            exact ⟨_, _, rfl, g, by rw [← r.length]; exact hn, names_ok is ds _ ρ σ0 r hn hl off k⟩
          · rw [if_neg hn] at e; cases e
      · cases e
end
end Mill

set_option Elab.async false
set_option linter.all false
set_option maxRecDepth 100000
set_option maxHeartbeats 4000000
/-! Mill12: comprehensions. -/
namespace Mill
open PySem PySem.Spec PyProof.Rows L2
def xwF : WX := fun _ _ _ _ => False
section
variable {W : Wd} {C : Cfg} {N fns : List Str} {lev : Nat} {sc : Scope} {X : Cx} {xw : WX} {σ : L2.St} {m m1 : List Addr} {H H1 : Hp} {h h1 : AH}
theorem Ok.blk (O : Ok W C N fns lev sc X xw) {scope : Scope} {s : Shared} {H : Hp} {Cc : Addr} {cl : List (Str × Addr)} {fp : List Addr} : Ok W C N fns lev (relS scope sc) (X.blk s H scope (compEnvC scope cl Cc X.env) fp) xwF where
  hK := O.hK
  hN := O.hN
  calm := O.calm
  nd := O.nd
  hsc := by show relS scope X.env.scope = _; rw [O.hsc]
  room := O.room
  takes := fun u s' ⟨a, B, sI, pins, σ, H, cls, d, e, I, nb, up, sky, na, os, ag, w⟩ => w.elim
  pass := PassesOwn.never
  blt := O.blt
  glob := O.glob
  calls := O.calls
/-- a list that the walk itself holds is written -/
theorem RelH.own {a : Addr} {vs ws : List V} (r : RelH W.K W.T m H h) (hm : a ∉ m) (ha : H a = some (.lst vs)) : RelH W.K W.T m (upd H a (.lst ws)) h := by
  have i : ∀ b o', H b = some o' → ImmO o' → (upd H a (.lst ws)) b = some o' := fun b o' e io => by
    rw [upd_ne (ne_of e ha (by intro z; subst z; exact io))]; exact e
  refine ⟨r.len, r.nd, fun n b ds e1 e2 => ?_, Tabs.lst r.tab ha⟩
  obtain ⟨us, q1, q2⟩ := r.cell n b ds e1 e2
  exact ⟨us, by rw [upd_ne (fun z : b = a => hm (by rw [← z]; exact List.mem_of_getElem? e1))]; exact q1, q2.mono i fun _ _ e => e⟩
theorem Ext.own {a : Addr} {vs ws : List V} (x : Ext [] m H m1 H1) (hn : H a = none) (ha : H1 a = some (.lst vs)) : Ext [] m H m1 (upd H1 a (.lst ws)) :=
  ⟨x.pre, fun b o e h1 h2 h3 => by rw [upd_ne (ne_of_none e hn)]; exact x.keep b o e h1 h2 h3, fun b o e i => by rw [upd_ne (ne_of_none e hn)]; exact x.imm b o e i, fun b e => by
    by_cases hb : b = a
    · rw [hb]; exact hn
    · rw [upd_ne hb] at e; exact x.dom b e⟩
theorem Ext.ownI {a : Addr} {vs ws : List V} (ha : H a = some (.lst vs)) : ∀ b o', H b = some o' → ImmO o' → (upd H a (.lst ws)) b = some o' := fun b o' e io => by
  rw [upd_ne (ne_of e ha (by intro z; subst z; exact io))]; exact e

def compStep (C : Cfg) (elt : E) (tg : Tg) (c : Op) (ρ : Sl) (x : D) (h : AH) : R (Option D) := match setTg tg x ρ with
  | none => .err
  | some ρ' => (evC C c ρ' h).bind fun b h2 => if b then (evE C elt ρ' h2).bind fun t h3 => (named t h3).bind fun y h4 => .ok (some y) h4 else .ok none h2
theorem comp_eq (elt : E) (tg : Tg) (it : It) (c : Op) (ρ : Sl) (h : AH) : evE C (.comp elt tg it c) ρ h = (evI C it ρ h).bind fun s h1 => compL s (compStep C elt tg c ρ) s.len 0 [] h1 := rfl
theorem lc_ok {Hw : Hp} {elt : E} {tg : Tg} {c : Op} {ρ : Sl} {vs : List Nat} {wi : TI} {Q : VK} {K : PySem.W.Frag} (hK : K = W.K) (hvs : ∀ i, i ∈ vs ↔ i ∈ tg.slots) (s : RelS W.K m H ρ σ)
    (hw : wi σ Hw fun J H1 => ∃ m1 h1 sr, Ext [] m H m1 H1 ∧ RelH W.K W.T m1 H1 h1 ∧ SrcOk W sr J m1 H1 ∧ Post W xw σ m H (GT W H) (compL sr (compStep C elt tg c ρ) sr.len 0 [] h1) Q) (mono : ∀ σ H (R R' : L2.It → Hp → Prop), (∀ J H, R J H → R' J H) → wi σ H R → wi σ H R') :
    tLc wi (gTg K tg) (rdC W C xwF c) (rdE W C xwF elt) vs σ Hw Q := by
  refine mono _ _ _ _ ?_ hw
  rintro J H1 ⟨m1, h1, sr, x1, r1, so, p1⟩ D hD
  refine ⟨fun i k H' => k = sr.len - i ∧ i ≤ sr.len ∧ ∃ m' h' acc us, Ext [] m1 H1 m' H' ∧ RelH W.K W.T m' H' h' ∧ H' D = some (.lst us) ∧ D ∉ m' ∧ Reps W.K m' H' acc us ∧ Post W xw σ m H (GT W H) (compL sr (compStep C elt tg c ρ) (sr.len - i) i acc h') Q,
    ⟨sr.len, rfl, Nat.zero_le _, m1, h1, [], [], Ext.new hD, r1.new hD, upd_same, fun z => ?_, .nil, p1⟩, ?_⟩
  · obtain ⟨ws, e⟩ := r1.isLst z
    rw [hD] at e; cases e
  rintro i k H' ⟨rfl, hi, m', h', acc, us, x', r', eD, nD, ra, p'⟩
  have xa : Ext [] m H m' H' := x1.trans0 x'
  by_cases hlt : i < sr.len
  · have hk : sr.len - i = (sr.len - (i + 1)) + 1 := by omega
    rw [hk] at p'
    unfold compL at p'
    cases eg : sr.get h' i with
    | none => rw [eg] at p'; exact p'.elim
    | some d =>
      rw [eg] at p'
      obtain ⟨go, yl⟩ := so.1 i m' H' h' d x' r' hlt eg
      refine .inr ⟨go, fun H'' => sr.len - (i + 1) = sr.len - (i + 1) ∧ i + 1 ≤ sr.len ∧ ∃ m' h' acc us, Ext [] m1 H1 m' H'' ∧ RelH W.K W.T m' H'' h' ∧ H'' D = some (.lst us) ∧ D ∉ m' ∧ Reps W.K m' H'' acc us ∧ Post W xw σ m H (GT W H) (compL sr (compStep C elt tg c ρ) (sr.len - (i + 1)) (i + 1) acc h') Q,
        fun H'' z => ⟨sr.len - (i + 1), by omega, z⟩, fun y H2 hy => ?_⟩
      obtain ⟨x2, r2, q2⟩ := yl y H2 hy
      change Post W xw σ m H (GT W H) (match compStep C elt tg c ρ d h' with
        | .ok none h1 => compL sr (compStep C elt tg c ρ) (sr.len - (i + 1)) (i + 1) acc h1
        | .ok (some y) h1 => if acc.length < sizeLine then compL sr (compStep C elt tg c ρ) (sr.len - (i + 1)) (i + 1) (acc ++ [y]) h1 else .err
        | _ => .err) Q at p'
      unfold compStep at p'
      cases es : setTg tg d ρ with
      | none => rw [es] at p'; exact p'.elim
      | some ρ' =>
        rw [es] at p'
        have s2 := ((xa.trans0 x2).rels s)
        have eD2 : H2 D = some (.lst us) := x2.keep _ _ eD nD (by simp) fun ps z => by cases z
        refine tg_ok hK (ρ := ρ) (σ0 := wipe σ vs) es q2 (by rw [wipe_length]; exact s.1) (fun j d' hj e => ?_) fun σ' rs hl off => ⟨?_, ?_⟩
        · obtain ⟨v, e1, e2⟩ := s2.2 j d' e
          exact ⟨v, by rw [wipe_get, if_neg (fun z => hj ((hvs j).mp z))]; exact e1, e2⟩
        · refine wipe_eq (by rw [hl, wipe_length]) fun j hj => ?_
          rw [off j (fun z => hj ((hvs j).mpr z)), wipe_get, if_neg hj]
        refine ⟨m', h', ρ', r2, rs, ?_⟩
        cases ec : evC C c ρ' h' with
        | err => simp only [ec, R.bind_err] at p'; exact p'.elim
        | exc c w h1 => simp only [ec, R.bind_exc] at p'; exact p'.elim
        | ok b h3 =>
          simp only [ec, R.bind_ok] at p'
          intro m3 H3 b' x3 r3 eb
          have eb : b' = b := eb
          subst eb
          have eD3 : H3 D = some (.lst us) := x3.keep _ _ eD2 nD (by simp) fun ps z => by cases z
          have nD3 : D ∉ m3 := x3.notin eD2 nD (by simp)
          cases b' with
          | false =>
            rw [if_neg Bool.false_ne_true]
            simp only [Bool.false_eq_true, if_false] at p'
            have xb : Ext [] m' H' m3 H3 := x2.trans0 x3
            exact ⟨rfl, hlt, m3, h3, acc, us, x'.trans0 xb, r3, eD3, nD3, xb.reps ra, p'⟩
          | true =>
            rw [if_pos rfl]
            simp only [if_true] at p'
            refine ⟨m3, h3, ρ', r3, x3.rels rs, ?_⟩
            cases ee : evE C elt ρ' h3 with
            | err => simp only [ee, R.bind_err] at p'; exact p'.elim
            | exc c w h1 => simp only [ee, R.bind_exc] at p'; exact p'.elim
            | ok t h4 =>
              simp only [ee, R.bind_ok] at p'
              intro m4 H4 v x4 r4 g4
              obtain ⟨F, rt, fr⟩ := g4
              obtain ⟨r5, q5, x5⟩ := rt.name r4
              have eD4 : H4 D = some (.lst us) := x4.keep _ _ eD3 nD3 (by simp) fun ps z => by cases z
              have nD4 : D ∉ m4 := x4.notin eD3 nD3 (by simp)
              have nD5 : D ∉ m4 ++ F := fun z => by
                rcases List.mem_append.mp z with z | z
                · exact nD4 z
                · have := fr D z
                  rw [eD3] at this; cases this
              have xc : Ext [] m3 H3 (m4 ++ F) H4 := x4.trans x5 fun a ha => .inl (fr a ha)
              have xd : Ext [] m' H' (m4 ++ F) H4 := (x2.trans0 x3).trans0 xc
              have p' : Post W xw σ m H (GT W H) (if acc.length < sizeLine then compL sr (compStep C elt tg c ρ) (sr.len - (i + 1)) (i + 1) (acc ++ [(nam t h4).1]) (nam t h4).2 else .err) Q := p'
              by_cases hz : acc.length < sizeLine
              · rw [if_pos hz] at p'
                refine ⟨us, eD4, by rw [← ra.length]; exact hz, rfl, hlt, m4 ++ F, (nam t h4).2, acc ++ [(nam t h4).1], us ++ [v], Ext.own (x'.trans0 xd) hD eD4, RelH.own r5 nD5 eD4, upd_same, nD5, ?_, p'⟩
                exact ((xd.reps ra).append (.cons q5 .nil)).mono (Ext.ownI eD4) fun _ _ e => e
              · rw [if_neg hz] at p'; exact p'.elim
  · have e : i = sr.len := by omega
    subst e
    rw [Nat.sub_self] at p'
    unfold compL at p'
    by_cases hf : sr.fin h' = true
    · simp only [hf, if_true] at p'
      refine .inl ⟨so.2 m' H' h' x' r' hf, p' m' H' (.ref D) xa r' ⟨[D], ⟨D, us, rfl, eD, ra, nD, rfl⟩, fun a ha => ?_⟩⟩
      have : a = D := by simpa using ha
      subst this
      exact x1.dom a hD
    · simp only [hf, if_false] at p'
      exact p'.elim
end
end Mill

set_option Elab.async false
set_option linter.all false
set_option maxRecDepth 100000
set_option maxHeartbeats 4000000
/-! Mill13: every expression. -/
namespace Mill
open PySem PySem.Spec PyProof.Rows L2
/-- no star, no set display, no slice -/
def plainE : Expr → Bool
  | .Starred .. => false | .Set .. => false | .Slice .. => false | _ => true
theorem plain_of {N fns : List Str} {n : Nat} {sc : Scope} {e : Expr} {x : E} (h : ofE N fns n sc e = some x) : plainE e = true := by
  cases n with
  | zero => unfold ofE at h; cases h
  | succ n => cases e <;> first | rfl | (unfold ofE at h; cases h)
theorem star_ok {e : Expr} (h : plainE e = true) (es : List Expr) (env : Env) : starEach (e :: es) env = (false, eval e env) :: starEach es env := by cases e <;> first | rfl | cases h
theorem behind_ok {e : Expr} (h : plainE e = true) (op : CmpOp) : behindInMarks op e = false := by cases e <;> first | rfl | cases h
theorem plainIx_ok {e : Expr} (h : plainE e = true) : PlainIx e := by cases e <;> first | exact fun _ _ => rfl | cases h
theorem folded_ok {e : Expr} (h : plainE e = true) (env : Env) : ∀ x, foldedSetIterable e env x = pure x := by cases e <;> first | exact fun _ => rfl | cases h
theorem stars_ok {f : Expr → Option E} (hf : ∀ e x, f e = some x → plainE e = true) (env : Env) : ∀ (es : List Expr) (xs : Es), ofEs f es = some xs → (starEach es env).any (·.1) = false
  | [], xs, h => rfl
  | e :: es, xs, h => by
    replace h : (match f e, ofEs f es with | some a, some as => some (Es.cons a as) | _, _ => none) = some xs := h
    cases e1 : f e with
    | none => rw [e1] at h; cases h
    | some a =>
      cases e2 : ofEs f es with
      | none => rw [e1, e2] at h; cases h
      | some as =>
        rw [star_ok (hf e a e1), List.any_cons, stars_ok hf env es as e2]; rfl
theorem back_any {pos : Pos} : ∀ l : List (Bool × Sem Value), (backTo pos l).any (·.1) = l.any (·.1) := by
  intro l
  unfold backTo
  cases l with
  | nil => rfl
  | cons a l => simp [List.any_map]; rfl
section
variable {W : Wd} {C : Cfg} {N fns : List Str} {lev : Nat} {sc : Scope} {X : Cx} {xw : WX} {σ : L2.St} {m m1 : List Addr} {H H1 : Hp} {h h1 : AH}
theorem snd_es {f : Expr → Option E} (hp : ∀ e x, f e = some x → plainE e = true) (hf : ∀ a x, f a = some x → PE X a (rdE W C xw x)) : ∀ (es : List Expr) (xs : Es), ofEs f es = some xs → PA X es (rdEs W C xw xs)
  | [], xs, h => by cases h; exact snd_nil
  | e :: es, xs, h => by
    replace h : (match f e, ofEs f es with | some a, some as => some (Es.cons a as) | _, _ => none) = some xs := h
    cases e1 : f e with
    | none => rw [e1] at h; cases h
    | some a =>
      cases e2 : ofEs f es with
      | none => rw [e1, e2] at h; cases h
      | some as =>
        rw [e1, e2] at h
        cases h
        exact snd_cons (hf e a e1) (snd_es hp hf es as e2) (star_ok (hp e a e1) es X.env)
theorem snd_o {f : Expr → Option E} (hf : ∀ a x, f a = some x → PE X a (rdE W C xw x)) : ∀ (e : Option Expr) (x : Op), ofO f e = some x → PO X e (rdO W C xw x)
  | none, x, h => by cases h; exact snd_noO
  | some e, x, h => by
    replace h : (f e).map Op.yes = some x := h
    cases e1 : f e with
    | none => rw [e1] at h; cases h
    | some a => rw [e1] at h; cases h; exact snd_yesO (hf e a e1)
theorem bool_t {r : R Tm} {Q : Bool → Hp → Prop} (hb : ∀ t h1, r = .ok t h1 → ∃ k, t = .d (.bl k)) (p : Post W xw σ m H GI (tstR r) Q) : Post W xw σ m H (GT W H) r (fun v H' => ∃ k, v = .bl k ∧ Q k H') := by
  cases r with
  | ok t h1 =>
    obtain ⟨k, rfl⟩ := hb t h1 rfl
    intro m1 H1 v x1 r1 ⟨F, q, _⟩
    exact ⟨k, q.bl, p m1 H1 k x1 r1 rfl⟩
  | exc c w h1 => exact p
  | err => exact p
theorem cmpR_bool {op : CmpOp} {a b : Tm} {h : AH} {t : Tm} {h1 : AH} (e : cmpR op a b h = .ok t h1) : ∃ k, t = .d (.bl k) := by
  unfold cmpR at e
  cases e1 : cmpT op a b h with
  | none => rw [e1] at e; cases e
  | some k => rw [e1] at e; cases e; exact ⟨k, rfl⟩
theorem bind_ok_of {α β : Type} {r : R α} {f : α → AH → R β} {b : β} {h1 : AH} (e : r.bind f = .ok b h1) : ∃ a h, r = .ok a h ∧ f a h = .ok b h1 := by
  cases r with
  | ok a h => exact ⟨a, h, rfl, e⟩
  | exc c w h => cases e
  | err => cases e
theorem chn_bool {o1 o2 : CmpOp} {x y z : E} {ρ : Sl} {t : Tm} (e : evE C (.chn o1 o2 x y z) ρ h = .ok t h1) : ∃ k, t = .d (.bl k) := by
  obtain ⟨a, h2, e1, e⟩ := bind_ok_of (show (evE C x ρ h).bind _ = _ from e)
  obtain ⟨b, h3, e2, e⟩ := bind_ok_of e
  obtain ⟨r, h4, e3, e⟩ := bind_ok_of e
  obtain ⟨k, rfl⟩ := cmpR_bool e3
  cases k with
  | false => cases e; exact ⟨false, rfl⟩
  | true =>
    obtain ⟨c, h5, e4, e⟩ := bind_ok_of (show (evE C z ρ h4).bind _ = _ from e)
    exact cmpR_bool e
theorem chn_both {o1 o2 : CmpOp} {a b c : Expr} {x y z : E} {pos : Pos} (O : Ok W C N fns lev sc X xw) (ha : PE X a (rdE W C xw x)) (hb : PE X b (rdE W C xw y)) (hc : PE X c (rdE W C xw z)) (hm : lastMarks [o1, o2] [b, c] = false) :
    PE X (.Compare a [o1, o2] [b, c] pos) (rdE W C xw (.chn o1 o2 x y z)) ∧ PT X (.Compare a [o1, o2] [b, c] pos) (rdT W C xw (.chn o1 o2 x y z)) := by
  obtain ⟨r, ho, hr⟩ := cmp_ok (W := W) O.hK (unitsOk O) o1
  obtain ⟨r', ho', hr'⟩ := cmp_ok (W := W) O.hK (unitsOk O) o2
  have key : ∀ σ H Q, rdE W C xw (.chn o1 o2 x y z) σ H Q → tChain r r' (rdE W C xw x) (rdE W C xw y) (rdE W C xw z) σ H Q := fun σ H Q h => by
    obtain ⟨m, h, ρ, rh, s, p⟩ := h
    refine two_then rh s p fun m2 H2 h2 t u v w F G r2 s2 q1 q2 p2 => ?_
    unfold cmpR at p2
    cases e : cmpT o1 t u h2 with
    | none => rw [e] at p2; exact p2.elim
    | some k =>
      rw [e] at p2
      refine hr m2 H2 h2 t u v w F G _ k r2 q1 q2 e ⟨k, rfl, ?_⟩
      cases k with
      | false => exact post_d p2 r2 (.bl false)
      | true =>
        refine one_then (β := V) (G2 := fun _ _ _ _ _ => True) r2 s2 p2 fun m3 H3 h3 t3 v3 F3 x3 r3 s3 q3 _ p3 => ?_
        obtain ⟨k', e', q⟩ := cmpR_ok (r := fun _ => True) (post_reT p3 x3) r3
        exact hr' m3 H3 h3 u t3 w v3 G F3 Q k' r3 (q2.ext x3) q3 e' q
  refine ⟨pe_mono (pe_chain ho ho' ha hb hc hm) key, pt_mono (pt_chain ho ho' ha hb hc hm) fun σ H Q h => key σ H _ ?_⟩
  obtain ⟨m, h, ρ, rh, s, p⟩ := h
  exact ⟨m, h, ρ, rh, s, bool_t (fun t h1 e => chn_bool e) p⟩
theorem snt_ife {c a b : Expr} {z x y : E} {pos : Pos} (hc : PT X c (rdT W C xw z)) (ha : PT X a (rdT W C xw x)) (hb : PT X b (rdT W C xw y)) : PT X (.IfExp c a b pos) (rdT W C xw (.ife z x y)) := by
  refine ⟨fun pins s σ H Q I h => ?_⟩
  obtain ⟨m, h, ρ, rh, s', p⟩ := h
  have e : tstR (evE C (.ife z x y) ρ h) = (tstR (evE C z ρ h)).bind fun b h1 => if b = true then tstR (evE C x ρ h1) else tstR (evE C y ρ h1) := by
    show tstR ((evE C z ρ h).bind fun t h1 => (match truT t h1 with | some true => evE C x ρ h1 | some false => evE C y ρ h1 | none => .err)) = _
    unfold tstR
    cases evE C z ρ h with
    | ok t h1 =>
      simp only [R.bind_ok]
      cases truT t h1 with
      | none => rfl
      | some k => cases k <;> rfl
    | exc c w h1 => rfl
    | err => rfl
  rw [e] at p
  show wpAny _ _ (do if ← isTrue c X.env (eval c X.env) then isTrue a X.env (eval a X.env) else isTrue b X.env (eval b X.env)) _ _ s
  refine wpAny_bind (thn (hc.run pins s σ H _ I ⟨m, h, ρ, rh, s', post_bind (G := GI) p⟩) fun k s1 ⟨H1, I1, m1, h1, t, x1, r1, eb, p1⟩ => ?_)
  have eb : k = t := eb
  subst eb
  have p2 := post_re p1 x1 (G' := GI) fun _ _ _ _ g => g
  cases k with
  | true => exact ha.run pins s1 σ H1 Q I1 ⟨m1, h1, ρ, r1, x1.rels s', p2⟩
  | false => exact hb.run pins s1 σ H1 Q I1 ⟨m1, h1, ρ, r1, x1.rels s', p2⟩
theorem tests_ok {ifs : List Expr} {c : Op} {f : Expr → Option E} (hf : ∀ a x, f a = some x → PT X a (rdT W C xw x)) (h : (match ifs with | [] => some Op.no | [c] => (f c).map .yes | _ => none) = some c) : PTs X ifs (rdC W C xw c) := by
  split at h
  · cases h
    refine ⟨fun pins s σ H Q I h => pts_nil.run pins s σ H Q I ?_⟩
    obtain ⟨m, h, ρ, rh, s', p⟩ := h
    exact post_at (G := GI) p rh rfl
  · rename_i c'
    cases e : f c' with
    | none => rw [e] at h; cases h
    | some y => rw [e] at h; cases h; exact pts_one (hf c' y e)
  · cases h
theorem names_pg {sc : Scope} (O : Ok W C N fns lev sc X xw) : ∀ (es : List Expr) (is : List Nat) (s0 : Scope), (∀ x, s0.names.lookup x = some .cell → X.fn x = true) → (∀ x k, k ≠ .free → s0.names.lookup x = some k → sc.names.lookup x = some k) → ofNames N s0 es = some is → PGs X es (gNames is) ∧ (assignEach es X.env).length = is.length ∧ (assignEach es X.env).findIdx? (·.1) = none
  | [], is, s0, hfn, hs, h => by cases h; exact ⟨pgs_nil, rfl, rfl⟩
  | e :: es, is, s0, hfn, hs, h => by
    cases e <;> first
      | (unfold ofNames at h; cases h; done)
      | skip
    rename_i y py
    replace h : (match slotIs N s0 y, ofNames N s0 es with | some i, some is => some (i :: is) | _, _ => none) = some is := h
    cases e1 : slotIs N s0 y with
    | none => rw [e1] at h; cases h
    | some i =>
      cases e2 : ofNames N s0 es with
      | none => rw [e1, e2] at h; cases h
      | some js =>
        rw [e1, e2] at h
        cases h
        obtain ⟨h1, h2, h3⟩ := names_pg O es js s0 hfn hs e2
        have hk : X.N[i]? = some y ∧ (sc.names.lookup y = some .local ∨ sc.names.lookup y = some .cell) ∧ (X.fn y = true ∨ sc.names.lookup y = some .local) := by
          rw [O.hN]
          unfold slotIs at e1
          split at e1
          · rename_i el; exact ⟨slotOf_ok e1, .inl (hs y _ (by decide) el), .inr (hs y _ (by decide) el)⟩
          · rename_i el; exact ⟨slotOf_ok e1, .inr (hs y _ (by decide) el), .inl (hfn y el)⟩
          · cases e1
        have hl : Loc X.env.scope y := by rw [O.hsc]; exact hk.2.1
        have hf : X.fn y = true ∨ X.env.scope.names.lookup y = some .local := by rw [O.hsc]; exact hk.2.2
        refine ⟨pgs_cons (pg_name (by rw [O.hN]; exact O.nd) hk.1 hl hf) h1 rfl, ?_, ?_⟩
        · show (assignEach es X.env).length + 1 = js.length + 1
          rw [h2]
        · show List.findIdx? _ ((false, _) :: assignEach es X.env) = none
          rw [List.findIdx?_cons]
          simp [h3]
theorem tg_pg {sc : Scope} (O : Ok W C N fns lev sc X xw) {e : Expr} {t : Tg} {s0 : Scope} (hfn : ∀ x, s0.names.lookup x = some .cell → X.fn x = true) (hs : ∀ x k, k ≠ .free → s0.names.lookup x = some k → sc.names.lookup x = some k) (h : ofTg N s0 e = some t) : PG X e (gTg X.K t) := by
  cases e <;> first
    | (unfold ofTg at h; cases h; done)
    | skip
  · rename_i y py
    replace h : (slotIs N s0 y).map .nm = some t := h
    cases e1 : slotIs N s0 y with
    | none => rw [e1] at h; cases h
    | some i =>
      rw [e1] at h
      cases h
      have h : ofNames N s0 [.Name y py] = some [i] := by
        show (match slotIs N s0 y, ofNames N s0 [] with | some i, some is => some (i :: is) | _, _ => none) = _
        rw [e1]; rfl
      have hk : X.N[i]? = some y ∧ (sc.names.lookup y = some .local ∨ sc.names.lookup y = some .cell) ∧ (X.fn y = true ∨ sc.names.lookup y = some .local) := by
        rw [O.hN]
        unfold slotIs at e1
        split at e1
        · rename_i el; exact ⟨slotOf_ok e1, .inl (hs y _ (by decide) el), .inr (hs y _ (by decide) el)⟩
        · rename_i el; exact ⟨slotOf_ok e1, .inr (hs y _ (by decide) el), .inl (hfn y el)⟩
        · cases e1
      have hl : Loc X.env.scope y := by rw [O.hsc]; exact hk.2.1
      have hf : X.fn y = true ∨ X.env.scope.names.lookup y = some .local := by rw [O.hsc]; exact hk.2.2
      exact pg_name (by rw [O.hN]; exact O.nd) hk.1 hl hf
  · rename_i es k py
    replace h : (ofNames N s0 es).map .tp = some t := h
    cases e1 : ofNames N s0 es with
    | none => rw [e1] at h; cases h
    | some is =>
      rw [e1] at h
      cases h
      obtain ⟨h1, h2, h3⟩ := names_pg O es is s0 hfn hs e1
      exact pg_tup O.calm h1 h2 h3
theorem it_pi {sc : Scope} (O : Ok W C N fns lev sc X xw) {f : Expr → Option E} (hp : ∀ e x, f e = some x → plainE e = true) (hf : ∀ a x, f a = some x → PE X a (rdE W C xw x)) {tg e : Expr} {it : It} (h : ofIt f sc (isTup tg) e = some it) : PI X tg e (rdI W C xw it) ∧ plainE e = true := by
  unfold ofIt at h
  split at h
  · rename_i g q as ks p
    refine ⟨?_, rfl⟩
    split at h
    · rename_i hg
      obtain ⟨rfl, hg, hk⟩ := hg
      have hk : ks = [] := by simpa using hk
      subst hk
      have hg := of_decide_eq_true hg
      split at h
      · rename_i a
        cases e1 : f a with
        | none => rw [e1] at h; cases h
        | some y => rw [e1] at h; cases h; exact sni_rng1 O hg (hf a y e1) (star_ok (hp a y e1) [] _)
      · rename_i a b
        cases e1 : f a with
        | none => rw [e1] at h; cases h
        | some y =>
          cases e2 : f b with
          | none => rw [e1, e2] at h; cases h
          | some z => rw [e1, e2] at h; cases h; exact sni_rng2 O hg (hf a y e1) (hf b z e2) (star_ok (hp a y e1) _ _) (star_ok (hp b z e2) [] _)
      · cases h
    · split at h
      · rename_i hg
        obtain ⟨rfl, ht, hg, hk⟩ := hg
        have hk : ks = [] := by simpa using hk
        subst hk
        have hg := of_decide_eq_true hg
        split at h
        · rename_i a
          cases e1 : f a with
          | none => rw [e1] at h; cases h
          | some y =>
            rw [e1] at h; cases h
            cases tg <;> first
              | exact sni_enum O hg (hf a y e1) (star_ok (hp a y e1) [] _)
              | cases ht
        · cases h
      · split at h
        · rename_i hg
          obtain ⟨rfl, ht, hg, hk⟩ := hg
          have hk : ks = [] := by simpa using hk
          subst hk
          have hg := of_decide_eq_true hg
          split at h
          · rename_i a b c
            cases e1 : f a with
            | none => rw [e1] at h; cases h
            | some y =>
              cases e2 : f b with
              | none => rw [e1, e2] at h; cases h
              | some z =>
                cases e3 : f c with
                | none => rw [e1, e2, e3] at h; cases h
                | some u =>
                  rw [e1, e2, e3] at h; cases h
                  cases tg <;> first
                    | exact sni_zip3 O hg (hf a y e1) (hf b z e2) (hf c u e3) (star_ok (hp a y e1) _ _) (star_ok (hp b z e2) _ _) (star_ok (hp c u e3) [] _)
                    | cases ht
          · cases h
        · cases e1 : f (.Call (.Name g q) as ks p) with
          | none => rw [e1] at h; cases h
          | some y => rw [e1] at h; cases h; exact sni_seq O (hf _ y e1)
  · cases e1 : f e with
    | none => rw [e1] at h; cases h
    | some y => rw [e1] at h; cases h; exact ⟨sni_seq O (hf _ y e1), hp e y e1⟩
theorem snd_all (N fns : List Str) : ∀ (n : Nat) (sc : Scope) (e : Expr) (x : E), ofE N fns n sc e = some x → ∀ (W : Wd) (C : Cfg) (lev : Nat) (X : Cx) (xw : WX), Ok W C N fns lev sc X xw → PE X e (rdE W C xw x) ∧ PT X e (rdT W C xw x)
  | 0, sc, e, x, h => by unfold ofE at h; cases h
  | n + 1, sc, e, x, h => by
    intro W C lev X xw O
    have ih := snd_all N fns n
    have hp : ∀ (sc : Scope) (e : Expr) (x : E), ofE N fns n sc e = some x → plainE e = true := fun sc e x h => plain_of h
    have he : ∀ (e : Expr) (x : E), ofE N fns n sc e = some x → PE X e (rdE W C xw x) := fun e x h => (ih sc e x h W C lev X xw O).1
    have ht : ∀ (e : Expr) (x : E), ofE N fns n sc e = some x → PT X e (rdT W C xw x) := fun e x h => (ih sc e x h W C lev X xw O).2
    have both : ∀ {e : Expr} {x : E}, PE X e (rdE W C xw x) → (∀ whole, isTrue e X.env whole = (do let v ← whole; standAt e.pos; holding [v] (truthy v))) → PE X e (rdE W C xw x) ∧ PT X e (rdT W C xw x) := fun a b => ⟨a, snt_plain O a b⟩
    unfold ofE at h
    split at h
    · -- Name
      rename_i y p
      refine both ?_ fun _ => rfl
      split at h
      · rename_i hn
        have var : Vis sc y → (slotOf N y).map E.var = some x → PE X (.Name y p) (rdE W C xw x) := fun v h => by
          cases e1 : slotOf N y with
          | none => rw [e1] at h; cases h
          | some i => rw [e1] at h; cases h; exact snd_var O (slotOf_ok e1) v hn
        split at h
        · rename_i el; exact var (.inl el) h
        · rename_i el; exact var (.inr (.inl el)) h
        · rename_i el; exact var (.inr (.inr el)) h
        · rename_i el; cases h; exact snd_glob O el hn
        · cases h
      · cases h
    · cases h; exact both (pe_mono pe_int fun σ H Q h => by obtain ⟨m, h, ρ, rh, s, p⟩ := h; exact post_d p rh (.int _)) fun _ => rfl
    · cases h; exact both (pe_mono pe_bl fun σ H Q h => by obtain ⟨m, h, ρ, rh, s, p⟩ := h; exact post_d p rh (.bl _)) fun _ => rfl
    · cases h; exact both (pe_mono pe_non fun σ H Q h => by obtain ⟨m, h, ρ, rh, s, p⟩ := h; exact post_d p rh .non) fun _ => rfl
    · cases h; exact both (pe_mono pe_str fun σ H Q h => by obtain ⟨m, h, ρ, rh, s, p⟩ := h; exact post_d p rh (.str _)) fun _ => rfl
    · -- BinOp
      split at h
      · rename_i e1 e2; cases h; exact both (snd_bin O (he _ _ e1) (he _ _ e2)) fun _ => rfl
      · cases h
    · -- neg
      rename_i a p
      cases e1 : ofE N fns n sc a with
      | none => rw [e1] at h; cases h
      | some y => rw [e1] at h; cases h; exact both (snd_neg O (he _ _ e1)) fun _ => rfl
    · -- not
      rename_i a p
      cases e1 : ofE N fns n sc a with
      | none => rw [e1] at h; cases h
      | some y => rw [e1] at h; cases h; exact ⟨snd_not O (he _ _ e1), snt_not (ht _ _ e1)⟩
    · split at h
      · cases h
      · exact ⟨snd_ands O he _ _ h, (snt_ands ht _ _ h).pt⟩
    · split at h
      · cases h
      · exact ⟨snd_ors O he _ _ h, (snt_ors ht _ _ h).pt⟩
    · -- Compare
      split at h
      · rename_i e1 e2; cases h; exact ⟨snd_cmp O (he _ _ e1) (he _ _ e2) (behind_ok (hp _ _ _ e2) _), snt_cmp O (he _ _ e1) (he _ _ e2) (behind_ok (hp _ _ _ e2) _)⟩
      · cases h
    · split at h
      · rename_i e1 e2 e3; cases h; exact chn_both O (he _ _ e1) (he _ _ e2) (he _ _ e3) (behind_ok (hp _ _ _ e3) _)
      · cases h
    · split at h
      · rename_i e1 e2 e3; cases h; exact ⟨snd_ife (ht _ _ e1) (he _ _ e2) (he _ _ e3), snt_ife (ht _ _ e1) (ht _ _ e2) (ht _ _ e3)⟩
      · cases h
    · -- Tuple
      rename_i es k p
      cases e1 : ofEs (ofE N fns n sc) es with
      | none => rw [e1] at h; cases h
      | some xs => rw [e1] at h; cases h; exact both (snd_tup (snd_es (hp sc) he _ _ e1)) fun _ => rfl
    · rename_i es p
      cases e1 : ofEs (ofE N fns n sc) es with
      | none => rw [e1] at h; cases h
      | some xs => rw [e1] at h; cases h; exact both (snd_lst (snd_es (hp sc) he _ _ e1)) fun _ => rfl
    · -- [::-1]
      rename_i a _ _ _ _ _
      cases e1 : ofE N fns n sc a with
      | none => rw [e1] at h; cases h
      | some y => rw [e1] at h; cases h; exact both (snd_rev O (he _ _ e1)) fun _ => rfl
    · split at h
      · rename_i e1 e2 e3; cases h; exact both (snd_sl O (he _ _ e1) (snd_o he _ _ e2) (snd_o he _ _ e3)) fun _ => rfl
      · cases h
    · split at h
      · rename_i e1 e2; cases h; exact both (snd_ix O (he _ _ e1) (he _ _ e2) (plainIx_ok (hp _ _ _ e2))) fun _ => rfl
      · cases h
    · -- calls by name
      rename_i f q as p
      refine both ?_ fun _ => rfl
      split at h
      · rename_i hn
        have hg := of_decide_eq_true hn.2
        split at h
        · rename_i hf
          subst hf
          split at h
          · rename_i a ty q2
            split at h
            · rename_i hty
              cases e1 : ofE N fns n sc a with
              | none => rw [e1] at h; cases h
              | some y =>
                rw [e1] at h; cases h
                have st := star_ok (hp _ _ _ e1) [.Name ty q2] X.env
                have hm := hty.1
                have htg := of_decide_eq_true hty.2
                have fin : ∀ T : String, bootBuiltins ty = some (.type T) → ty ≠ "__name__" → (ty == ("__debug__" : Str)) = false → String.ofList (ty.cps.toList.map Char.ofNat) = T → PE X (.Call (.Name "isinstance" q) [a, .Name ty q2] [] p) (rdE W C xw (.isin y (String.ofList (ty.cps.toList.map Char.ofNat)))) := fun T h1 h2 h3 h4 => by
                  rw [h4]
                  exact snd_isin O (he _ _ e1) hg htg hm h1 h2 h3 st
                simp only [tyNames, List.mem_cons, List.mem_nil_iff, or_false] at hm
                rcases hm with z | z | z | z | z
                · subst z; exact fin "int" (by decide +kernel) (by decide +kernel) (by decide +kernel) (by decide +kernel)
                · subst z; exact fin "bool" (by decide +kernel) (by decide +kernel) (by decide +kernel) (by decide +kernel)
                · subst z; exact fin "str" (by decide +kernel) (by decide +kernel) (by decide +kernel) (by decide +kernel)
                · subst z; exact fin "tuple" (by decide +kernel) (by decide +kernel) (by decide +kernel) (by decide +kernel)
                · subst z; exact fin "list" (by decide +kernel) (by decide +kernel) (by decide +kernel) (by decide +kernel)
            · cases h
          · cases h
        · split at h
          · rename_i hf
            cases as with
            | nil => cases h
            | cons a as =>
              replace h : (ofEs (ofE N fns n sc) (a :: as)).map (E.bi f) = some x := h
              cases e1 : ofEs (ofE N fns n sc) (a :: as) with
              | none => rw [e1] at h; cases h
              | some xs =>
                rw [e1] at h; cases h
                have hs := stars_ok (hp sc) X.env _ _ e1
                have e2 : ∃ y ys, ofE N fns n sc a = some y ∧ ofEs (ofE N fns n sc) as = some ys := by
                  replace e1 : (match ofE N fns n sc a, ofEs (ofE N fns n sc) as with | some a, some as => some (Es.cons a as) | _, _ => none) = some xs := e1
                  split at e1
                  · rename_i z1 z2; exact ⟨_, _, z1, z2⟩
                  · cases e1
                obtain ⟨y, ys, e2, e3⟩ := e2
                exact snd_bi O hg hn.1 hf (snd_es (hp sc) he _ _ e1) (star_ok (hp _ _ _ e2) as _) (by rw [back_any]; exact stars_ok (hp sc) X.env _ _ e3)
          · split at h
            · rename_i hf
              cases as with
              | nil => cases h; exact snd_call0 O hg hn.1 hf
              | cons a as =>
                cases e1 : ofEs (ofE N fns n sc) (a :: as) with
                | none => rw [e1] at h; cases h
                | some xs =>
                  rw [e1] at h; cases h
                  have e2 : ∃ y ys, ofE N fns n sc a = some y ∧ ofEs (ofE N fns n sc) as = some ys := by
                    replace e1 : (match ofE N fns n sc a, ofEs (ofE N fns n sc) as with | some a, some as => some (Es.cons a as) | _, _ => none) = some xs := e1
                    split at e1
                    · rename_i z1 z2; exact ⟨_, _, z1, z2⟩
                    · cases e1
                  obtain ⟨y, ys, e2, e3⟩ := e2
                  exact snd_call O hg hn.1 hf (snd_es (hp sc) he _ _ e1) (star_ok (hp _ _ _ e2) as _) (by rw [back_any]; exact stars_ok (hp sc) X.env _ _ e3)
            · cases h
      · cases h
    · -- methods
      rename_i o mt apos a p
      refine both ?_ fun _ => rfl
      split at h
      · rename_i hc
        obtain ⟨hl, hc, hm⟩ := hc
        split at h
        · rename_i e1 e2
          cases h
          simp only [List.mem_cons, List.mem_nil_iff, or_false] at hm
          have st := star_ok (hp _ _ _ e2) [] X.env
          rcases hm with z | z | z
          · subst z; exact snd_append O (he _ _ e1) (he _ _ e2) hc hl st
          · subst z; exact snd_extend O (he _ _ e1) (he _ _ e2) hc hl st
          · subst z; exact snd_join O (he _ _ e1) (he _ _ e2) hc hl st
        · cases h
      · cases h
    · rename_i a p
      cases e1 : ofE N fns n sc a with
      | none => rw [e1] at h; cases h
      | some y => rw [e1] at h; cases h; exact both (snd_fmt (he _ _ e1)) fun _ => rfl
    · rename_i vs p
      split at h
      · cases h
      · rename_i hl
        cases e1 : ofEs (ofE N fns n sc) vs with
        | none => rw [e1] at h; cases h
        | some xs => rw [e1] at h; cases h; exact both (snd_fstr he e1 hl) fun _ => rfl
    · -- comprehension
      rename_i elt tg iter ifs scope p
      refine both ?_ fun _ => rfl
      split at h
      · rename_i hb
        split at h
        · cases h
        · rename_i t e0
          split at h
          · rename_i hs
            split at h
            · rename_i it c y e1 e2 e3
              cases h
              obtain ⟨hit, hpl⟩ := it_pi O (hp sc) he e1
              have hsl : ∀ x k, k ≠ .free → scope.names.lookup x = some k → (relS scope sc).names.lookup x = some k := fun x k hk hl => lookup_relS_keep hk hl
              have ok : BlkOk X.N X.env.scope scope (ownOf N scope) := by rw [O.hN, O.hsc]; exact blkOk_by hb
              refine pe_mono (pe_lc (own := ownOf N scope) (g := gTg X.K t) (tt := rdC W C xwF c) (te := rdE W C xwF y) O.calm (by rw [O.hN]; exact O.nd) hit ok (fun s H Cc cl fp => ?_) (fun s H Cc cl fp => ?_) (fun s H Cc cl fp => ?_) (folded_ok hpl X.env)) fun σ H Q h => ?_
              · exact tg_pg (O.blk (s := s) (H := H) (Cc := Cc) (cl := cl) (fp := fp)) (fun z hz => by show (scope.names.lookup z == some .cell) = true; rw [hz]; rfl) hsl e0
              · exact tests_ok (fun a z e => (ih _ a z e W C lev _ xwF (O.blk (s := s) (H := H) (Cc := Cc) (cl := cl) (fp := fp))).2) e2
              · exact (ih _ elt y e3 W C lev _ xwF (O.blk (s := s) (H := H) (Cc := Cc) (cl := cl) (fp := fp))).1
              · obtain ⟨m, h, ρ, rh, s, p⟩ := h
                rw [comp_eq] at p
                refine lc_ok (xw := xw) O.hK (fun i => sameSlots_ok hs i) s ⟨m, h, ρ, rh, s, post_mono (post_bind (G := GS W) p) fun J H1 hh => ?_⟩ fun σ H R R' k ⟨m, h, ρ, rh, s, p⟩ => ⟨m, h, ρ, rh, s, post_mono p k⟩
                obtain ⟨m1, h1, sr, x1, r1, g1, p1⟩ := hh
                exact ⟨m1, h1, sr, x1, r1, g1, p1⟩
            · cases h
          · cases h
      · cases h
    · cases h
end
end Mill

set_option Elab.async false
set_option linter.all false
set_option maxRecDepth 100000
set_option maxHeartbeats 4000000
/-! Mill14: statements. -/
namespace Mill
open PySem PySem.Spec PyProof.Rows L2

/-- what is wanted of statements -/
def PostS (W : Wd) (xw : WX) (m : List Addr) (H : Hp) (o : O) (D : Ends) : Prop := match o with
  | .nx ρ h1 => ∀ m1 H1 σ1, Ext [] m H m1 H1 → RelH W.K W.T m1 H1 h1 → RelS W.K m1 H1 ρ σ1 → D.nx σ1 H1
  | .rt t h1 => ∀ m1 H1 v, Ext [] m H m1 H1 → RelH W.K W.T m1 H1 h1 → GT W H t v m1 H1 → D.rt v H1
  | .bk ρ h1 => ∀ m1 H1 σ1, Ext [] m H m1 H1 → RelH W.K W.T m1 H1 h1 → RelS W.K m1 H1 ρ σ1 → D.bk σ1 H1
  | .ct ρ h1 => ∀ m1 H1 σ1, Ext [] m H m1 H1 → RelH W.K W.T m1 H1 h1 → RelS W.K m1 H1 ρ σ1 → D.ct σ1 H1
  | .exc c w h1 => ∀ m1 H1 cls d σ1, Ext [] m H m1 H1 → RelH W.K W.T m1 H1 h1 → ExcAt W m1 H1 c w cls d → xw cls d σ1 H1
  | .err => False

/-- an own exception's class, called -/
def MkOk (W : Wd) (X : Cx) (c : Str) : Prop := ∀ (C : Cfg) (xw : WX) (a : Expr) (x : E) (p q : Pos), X.env.scope.names.lookup c = some .globalImplicit → okName c = true → PE X a (rdE W C xw x) → starEach [a] X.env = [(false, eval a X.env)] →
  L2N.PMk X (.Call (.Name c p) [a] [] q) (fun σ H K => rdE W C xw x σ H fun v H1 => ∀ dd fs, H1 dd = none → fs.lookup ("what" : Str) = some v → K (.ref (W.cA c)) (some dd) (upd H1 dd (.xd fs)))
structure OkS (W : Wd) (C : Cfg) (N fns excs : List Str) (lev : Nat) (sc : Scope) (X : Cx) (xw : WX) : Prop extends Ok W C N fns lev sc X xw where
  fnc : ∀ x, sc.names.lookup x = some .cell → X.fn x = true
  mks : ∀ c ∈ excs, MkOk W X c
  heard : ∀ (params : Arguments) (body : Expr) (ls : Scope) (x : E) (n : Nat) (p lp pos : Pos), sc.names.lookup ("_law_heard" : Str) = some .globalImplicit → LamX.lamSB sc ls = true → noPar params = true → ofE N fns n ls body = some x →
    PE X (.Call (.Name "_law_heard" p) [.Lambda params body ls lp] [] pos) (rdE W C xw (.heard excs x))

section
variable {W : Wd} {C : Cfg} {N fns excs : List Str} {lev : Nat} {sc : Scope} {X : Cx} {xw : WX} {σ : L2.St} {m m1 : List Addr} {H H1 : Hp} {h h1 : AH} {wf : Nat} {D D' : Ends}
theorem snd_hc (O : OkS W C N fns excs lev sc X xw) {e : Expr} {x : E} (h : ofHc N fns excs sc e = some x) : PE X e (rdE W C xw x) ∧ PT X e (rdT W C xw x) := by
  unfold ofHc at h
  split at h
  · rename_i f p1 hd p2 params body ls p3 p4 b p5
    split at h
    · rename_i hc
      obtain ⟨⟨h1, h2, h3⟩, rfl, h4, h5, h6⟩ := hc
      split at h
      · rename_i y z e1 e2
        cases h
        have pb : PE X b (rdE W C xw z) := (snd_all N fns 59 sc b z e2 W C lev X xw O.toOk).1
        have ph := O.heard params body ls y 59 p2 p3 p4 (of_decide_eq_true h4) h5 h6 e1
        have st : starEach [.Call (.Name "_law_heard" p2) [.Lambda params body ls p3] [] p4, b] X.env = (false, eval (.Call (.Name "_law_heard" p2) [.Lambda params body ls p3] [] p4) X.env) :: starEach [b] X.env := star_ok rfl _ _
        have sb : starEach [b] X.env = (false, eval b X.env) :: starEach [] X.env := star_ok (plain_of e2) [] _
        have pc := snd_call (pos := p5) (p := p1) O.toOk (of_decide_eq_true h2) h1 h3 (snd_cons ph (snd_cons pb snd_nil sb) st) st (by rw [back_any, sb]; rfl)
        exact ⟨pc, snt_plain O.toOk pc fun _ => rfl⟩
      · cases h
    · cases h
  · cases h
theorem snd_h (O : OkS W C N fns excs lev sc X xw) {e : Expr} {x : E} (h : ofH N fns excs sc e = some x) : PE X e (rdE W C xw x) ∧ PT X e (rdT W C xw x) := by
  unfold ofH at h
  split at h
  · rename_i a p
    cases e1 : ofHc N fns excs sc a with
    | none => rw [e1] at h; cases h
    | some y =>
      rw [e1] at h; cases h
      obtain ⟨h1, h2⟩ := snd_hc O e1
      exact ⟨snd_not O.toOk h1, snt_not h2⟩
  · exact snd_hc O h
theorem snd_x (O : OkS W C N fns excs lev sc X xw) {e : Expr} {x : E} (h : ofX N fns excs sc e = some x) : PE X e (rdE W C xw x) ∧ PT X e (rdT W C xw x) := by
  unfold ofX at h
  cases e1 : ofH N fns excs sc e with
  | some y => rw [e1] at h; cases h; exact snd_h O e1
  | none => rw [e1] at h; exact snd_all N fns 60 sc e x h W C lev X xw O.toOk
def rdS (W : Wd) (C : Cfg) (xw : WX) (wf : Nat) (s : S) : TS := fun D σ H => ∃ m h ρ, RelH W.K W.T m H h ∧ RelS W.K m H ρ σ ∧ PostS W xw m H (evS C wf s ρ h) D
def rdSs (W : Wd) (C : Cfg) (xw : WX) (wf : Nat) (s : Ss) : TS := fun D σ H => ∃ m h ρ, RelH W.K W.T m H h ∧ RelS W.K m H ρ σ ∧ PostS W xw m H (evSs C wf s ρ h) D
theorem ps_mono {st : Stmt} {t u : TS} (h : PS X st t) (k : ∀ D σ H, u D σ H → t D σ H) : PS X st u := ⟨fun pins s σ H D I q => h.run pins s σ H D I (k D σ H q)⟩
theorem pss_mono {st : List Stmt} {t u : TS} (h : PSs X st t) (k : ∀ D σ H, u D σ H → t D σ H) : PSs X st u := ⟨fun pins s σ H D I q => h.run pins s σ H D I (k D σ H q)⟩
theorem posts_re {o : O} (p : PostS W xw m H o D) (x : Ext [] m H m1 H1) : PostS W xw m1 H1 o D := by
  cases o with
  | nx ρ h => exact fun m2 H2 σ2 x2 r s => p m2 H2 σ2 (x.trans0 x2) r s
  | rt t h => exact fun m2 H2 v x2 r g => p m2 H2 v (x.trans0 x2) r (g.re x)
  | bk ρ h => exact fun m2 H2 σ2 x2 r s => p m2 H2 σ2 (x.trans0 x2) r s
  | ct ρ h => exact fun m2 H2 σ2 x2 r s => p m2 H2 σ2 (x.trans0 x2) r s
  | exc c w h => exact fun m2 H2 cls d σ2 x2 r e => p m2 H2 cls d σ2 (x.trans0 x2) r e
  | err => exact p
theorem posts_out {α β : Type} {G : α → β → List Addr → Hp → Prop} {r : R α} {f : α → AH → O} (p : PostS W xw m H (r.out f) D) :
    Post W xw σ m H G r (fun b H1 => ∃ m1 h1 a, Ext [] m H m1 H1 ∧ RelH W.K W.T m1 H1 h1 ∧ G a b m1 H1 ∧ PostS W xw m H (f a h1) D) := by
  cases r with
  | ok a h1 => exact fun m1 H1 b x r g => ⟨m1, h1, a, x, r, g, p⟩
  | exc c w h1 => exact fun m1 H1 cls d x r e => p m1 H1 cls d σ x r e
  | err => exact p
theorem posts_outx {α β : Type} {G : α → β → List Addr → Hp → Prop} {r : R α} {f : α → AH → O} (p : PostS W xw m H (r.out f) D) (x0 : Ext [] m H m1 H1) :
    Post W xw σ m1 H1 G r (fun b H2 => ∃ m2 h2 a, Ext [] m1 H1 m2 H2 ∧ RelH W.K W.T m2 H2 h2 ∧ G a b m2 H2 ∧ PostS W xw m H (f a h2) D) := by
  cases r with
  | ok a h1 => exact fun m2 H2 b x r g => ⟨m2, h1, a, x, r, g, p⟩
  | exc c w h1 => exact fun m2 H2 cls d x r e => p m2 H2 cls d σ (x0.trans0 x) r e
  | err => exact p
theorem posts_nx {ρ : Sl} (p : PostS W xw m H (.nx ρ h) D) (r : RelH W.K W.T m H h) (s : RelS W.K m H ρ σ) : D.nx σ H := p m H σ Ext.refl r s
theorem rels_off {ρ : Sl} (s : RelS W.K m H ρ σ) {is : List Nat} : ∀ j d, j ∉ is → ρ[j]? = some (some d) → ∃ v, σ[j]? = some (some v) ∧ Rep W.K m H d v := fun j d _ e => s.2 j d e

theorem sns_ex {e : Expr} {x : E} {pos : Pos} (he : PE X e (rdE W C xw x)) (hc : isComp e = false) : PS X (.Expr e pos) (rdS W C xw wf (.ex x)) := by
  refine ps_mono (ps_expr he (by cases e <;> first | rfl | cases hc)) fun D σ H h => ?_
  obtain ⟨m, h, ρ, rh, s, p⟩ := h
  refine ⟨m, h, ρ, rh, s, ?_⟩
  refine post_mono (posts_out (G := GT W H) p) fun v H1 hh => ?_
  obtain ⟨m1, h1, t, x1, r1, g1, p1⟩ := hh
  exact p1 m1 H1 σ x1 r1 (x1.rels s)
/-- a value comes to a target -/
theorem set_ok {t : Tg} {u : Tm} {v : V} {F : List Addr} {ρ : Sl} (O : Ok W C N fns lev sc X xw) (x1 : Ext [] m H m1 H1) (r1 : RelH W.K W.T m1 H1 h1) (s : RelS W.K m H ρ σ) (q : RepT W.K m1 H1 u v F) (fr : ∀ a ∈ F, H a = none)
    (p : PostS W xw m H (match setTg t (nam u h1).1 ρ with | some ρ' => .nx ρ' (nam u h1).2 | none => .err) D) : gTg X.K t v σ H1 D.nx := by
  obtain ⟨r2, q2, x2⟩ := q.name r1
  have x3 : Ext [] m H (m1 ++ F) H1 := x1.trans x2 fun a ha => .inl (fr a ha)
  cases e : setTg t (nam u h1).1 ρ with
  | none => rw [e] at p; exact p.elim
  | some ρ' =>
    rw [e] at p
    exact tg_ok O.hK e q2 s.1 (rels_off (x3.rels s)) fun σ' rs _ _ => p _ _ σ' x3 r2 rs
theorem sns_set {tg e : Expr} {t : Tg} {x : E} {pos : Pos} (O : OkS W C N fns excs lev sc X xw) (ht : ofTg N sc tg = some t) (he : PE X e (rdE W C xw x)) (hc : isComp e = false) (hu : isTup e = false) : PS X (.Assign [tg] e pos) (rdS W C xw wf (.set t x)) := by
  have hg := tg_pg O.toOk O.fnc (fun x k _ h => h) ht
  have hs : swapsWithSole [tg] e pos.line X.env = pure false := by cases e <;> first | rfl | cases hc
  have hw : swappedStores [tg] e X.env = pure none := by cases tg <;> cases e <;> first | rfl | cases hu
  have h1 : (assignEach [tg] X.env).map (·.2) = [assign tg X.env] := by
    cases tg <;> first
      | rfl
      | (unfold ofTg at ht; cases ht; done)
  refine ps_mono (ps_asg he hg hs hw h1) fun D σ H h => ?_
  obtain ⟨m, h, ρ, rh, s, p⟩ := h
  refine ⟨m, h, ρ, rh, s, ?_⟩
  refine post_mono (posts_out (G := GT W H) p) fun v H1 hh => ?_
  obtain ⟨m1, h1, u, x1, r1, ⟨F, q1, f1⟩, p1⟩ := hh
  exact set_ok O.toOk x1 r1 s q1 f1 p1
theorem sns_setIx {o i e : Expr} {x y z : E} {p1 pos : Pos} (O : OkS W C N fns excs lev sc X xw) (ho : PE X o (rdE W C xw x)) (hi : PE X i (rdE W C xw y)) (hpi : plainE i = true) (he : PE X e (rdE W C xw z)) (hc : isComp e = false) : PS X (.Assign [.Subscript o i p1] e pos) (rdS W C xw wf (.setIx x y z)) := by
  have hg : PG X (.Subscript o i p1) (gSub (rdE W C xw x) (rdE W C xw y) rSetL) := pg_sub ho hi set_list (by cases i <;> first | exact fun _ => rfl | cases hpi)
  have hs : swapsWithSole [.Subscript o i p1] e pos.line X.env = pure false := by cases e <;> first | rfl | cases hc
  refine ps_mono (ps_asg he hg hs rfl rfl) fun D σ H h => ?_
  obtain ⟨m, h, ρ, rh, s, p⟩ := h
  refine ⟨m, h, ρ, rh, s, ?_⟩
  refine post_mono (posts_out (G := GT W H) p) fun v H1 hh => ?_
  obtain ⟨m1, h1, u, x1, r1, ⟨F, q1, f1⟩, p1⟩ := hh
  refine ⟨m1, h1, ρ, r1, x1.rels s, ?_⟩
  refine post_mono (posts_outx (G := GT W H1) p1 x1) fun v2 H2 hh => ?_
  obtain ⟨m2, h2, u2, x2, r2, ⟨F2, q2, f2⟩, p2⟩ := hh
  refine ⟨m2, h2, ρ, r2, (x1.trans0 x2).rels s, ?_⟩
  refine post_mono (posts_outx (G := GT W H2) p2 (x1.trans0 x2)) fun v3 H3 hh => ?_
  obtain ⟨m3, h3, u3, x3, r3, ⟨F3, q3, f3⟩, p3⟩ := hh
  have xa : Ext [] m H m3 H3 := (x1.trans0 x2).trans0 x3
  replace q1 := q1.ext (x2.trans0 x3)
  replace q2 := q2.ext x3
  unfold setIxT at p3
  split at p3
  · rename_i h4 e4
    split at e4
    · rename_i n k
      have e3 := q3.int
      subst e3
      obtain ⟨q2, _⟩ := q2
      cases q2 with
      | @ref _ l hn =>
        cases hc2 : h3[n]? with
        | none => rw [hc2] at e4; cases e4
        | some c =>
          cases c with
          | lst ds =>
            rw [hc2] at e4
            cases hj : ixN ds.length k with
            | none => simp only [hj] at e4; cases e4
            | some j =>
              simp only [hj] at e4
              cases e4
              obtain ⟨vs, g1, g2⟩ := r3.cell n l ds hn hc2
              refine ⟨l, vs, k, j, rfl, rfl, g1, by rw [← g2.length]; exact hj, ?_⟩
              obtain ⟨r4, q4, x4⟩ := q1.name r3
              have xb : Ext [] m H (m3 ++ F) H3 := xa.trans x4 fun a ha => .inl (f1 a ha)
              have hn1 : (m3 ++ F)[n]? = some l := x4.ix n l hn
              have xc : Ext [] (m3 ++ F) H3 (m3 ++ F) (upd H3 l (.lst (vs.set j v))) := Ext.write (List.mem_of_getElem? hn1) g1
              have r5 := r4.write hn1 g1 ((x4.reps g2).set j q4)
              exact p3 _ _ σ (xb.trans0 xc) r5 ((xb.trans0 xc).rels s)
    · cases e4
  · exact p3.elim
theorem sns_ret {e : Expr} {x : E} {pos : Pos} (he : PE X e (rdE W C xw x)) : PS X (.Return (some e) pos) (rdS W C xw wf (.ret x)) := by
  refine ps_mono (ps_ret he) fun D σ H h => ?_
  obtain ⟨m, h, ρ, rh, s, p⟩ := h
  refine ⟨m, h, ρ, rh, s, ?_⟩
  refine post_mono (posts_out (G := GT W H) p) fun v H1 hh => ?_
  obtain ⟨m1, h1, u, x1, r1, g1, p1⟩ := hh
  exact p1 m1 H1 v x1 r1 g1
theorem sns_retN {pos : Pos} : PS X (.Return none pos) (rdS W C xw wf .retN) := by
  refine ps_mono ps_retN fun D σ H h => ?_
  obtain ⟨m, h, ρ, rh, s, p⟩ := h
  exact p m H .non Ext.refl rh ⟨[], ⟨.non, rfl⟩, fun _ z => absurd z (by simp)⟩
theorem sns_pass {pos : Pos} : PS X (.Pass pos) (rdS W C xw wf .pass) := ps_mono ps_pass fun D σ H h => by
  obtain ⟨m, h, ρ, rh, s, p⟩ := h
  exact p m H σ Ext.refl rh s
theorem sns_brk {pos : Pos} : PS X (.Break pos) (rdS W C xw wf .brk) := ps_mono ps_break fun D σ H h => by
  obtain ⟨m, h, ρ, rh, s, p⟩ := h
  exact p m H σ Ext.refl rh s
theorem sns_cnt {pos : Pos} : PS X (.Continue pos) (rdS W C xw wf .cnt) := ps_mono ps_continue fun D σ H h => by
  obtain ⟨m, h, ρ, rh, s, p⟩ := h
  exact p m H σ Ext.refl rh s
theorem ite_eq (c : E) (a b : Ss) (ρ : Sl) (h : AH) : evS C wf (.ite c a b) ρ h = (tstR (evE C c ρ h)).out fun k h1 => if k = true then evSs C wf a ρ h1 else evSs C wf b ρ h1 := by
  show ((evE C c ρ h).out fun x h1 => (match truT x h1 with | some true => evSs C wf a ρ h1 | some false => evSs C wf b ρ h1 | none => .err)) = _
  unfold tstR
  cases evE C c ρ h with
  | ok t h1 =>
    simp only [R.bind_ok, R.out_ok]
    cases truT t h1 with
    | none => rfl
    | some k => cases k <;> rfl
  | exc c w h1 => rfl
  | err => rfl
theorem sns_ite {c : Expr} {a b : List Stmt} {x : E} {y z : Ss} {pos : Pos} (hc : PT X c (rdT W C xw x)) (ha : PSs X a (rdSs W C xw wf y)) (hb : PSs X b (rdSs W C xw wf z)) : PS X (.If c a b pos) (rdS W C xw wf (.ite x y z)) := by
  refine ps_mono (ps_if hc ha hb) fun D σ H h => ?_
  obtain ⟨m, h, ρ, rh, s, p⟩ := h
  rw [ite_eq] at p
  refine ⟨m, h, ρ, rh, s, ?_⟩
  refine post_mono (posts_out (G := GI) p) fun k H1 hh => ?_
  obtain ⟨m1, h1, u, x1, r1, g1, p1⟩ := hh
  have g1 : k = u := g1
  subst g1
  cases k with
  | true => exact ⟨m1, h1, ρ, r1, x1.rels s, posts_re p1 x1⟩
  | false => exact ⟨m1, h1, ρ, r1, x1.rels s, posts_re p1 x1⟩
theorem sns_nil : PSs X [] (rdSs W C xw wf .nil) := pss_mono pss_nil fun D σ H h => by
  obtain ⟨m, h, ρ, rh, s, p⟩ := h
  exact p m H σ Ext.refl rh s
theorem posts_seq {s : S} {ss : Ss} {ρ : Sl} (p : PostS W xw m H (evSs C wf (.cons s ss) ρ h) D) : PostS W xw m H (evS C wf s ρ h) { D with nx := fun σ1 H1 => ∃ m1 h1 ρ1, Ext [] m H m1 H1 ∧ RelH W.K W.T m1 H1 h1 ∧ RelS W.K m1 H1 ρ1 σ1 ∧ PostS W xw m H (evSs C wf ss ρ1 h1) D } := by
  have p : PostS W xw m H (match evS C wf s ρ h with | .nx ρ1 h1 => evSs C wf ss ρ1 h1 | o => o) D := p
  cases e : evS C wf s ρ h with
  | nx ρ1 h1 => rw [e] at p; exact fun m1 H1 σ1 x r s => ⟨m1, h1, ρ1, x, r, s, p⟩
  | rt t h1 => rw [e] at p; exact p
  | bk ρ1 h1 => rw [e] at p; exact p
  | ct ρ1 h1 => rw [e] at p; exact p
  | exc c w h1 => rw [e] at p; exact p
  | err => rw [e] at p; exact p
theorem posts_mono {o : O} (p : PostS W xw m H o D) (k1 : ∀ σ H, D.nx σ H → D'.nx σ H) (k2 : ∀ v H, D.rt v H → D'.rt v H) (k3 : ∀ σ H, D.bk σ H → D'.bk σ H) (k4 : ∀ σ H, D.ct σ H → D'.ct σ H) : PostS W xw m H o D' := by
  cases o with
  | nx ρ h => exact fun m2 H2 σ2 x2 r s => k1 _ _ (p m2 H2 σ2 x2 r s)
  | rt t h => exact fun m2 H2 v x2 r g => k2 _ _ (p m2 H2 v x2 r g)
  | bk ρ h => exact fun m2 H2 σ2 x2 r s => k3 _ _ (p m2 H2 σ2 x2 r s)
  | ct ρ h => exact fun m2 H2 σ2 x2 r s => k4 _ _ (p m2 H2 σ2 x2 r s)
  | exc c w h => exact p
  | err => exact p
theorem sns_cons {st : Stmt} {sts : List Stmt} {s : S} {ss : Ss} (h1 : PS X st (rdS W C xw wf s)) (h2 : PSs X sts (rdSs W C xw wf ss)) : PSs X (st :: sts) (rdSs W C xw wf (.cons s ss)) := by
  refine pss_mono (pss_cons h1 h2) fun D σ H h => ?_
  obtain ⟨m, h, ρ, rh, s', p⟩ := h
  refine ⟨m, h, ρ, rh, s', posts_mono (posts_seq p) (fun σ1 H1 q => ?_) (fun _ _ q => q) (fun _ _ q => q) fun _ _ q => q⟩
  obtain ⟨m1, h1, ρ1, x, r, s, p⟩ := q
  exact ⟨m1, h1, ρ1, r, s, posts_re p x⟩
/-! ### loops -/
theorem sns_for {tg iter : Expr} {body : List Stmt} {t : Tg} {it : It} {b : Ss} {pos : Pos} (O : OkS W C N fns excs lev sc X xw) (ht : ofTg N sc tg = some t) (hi : PI X tg iter (rdI W C xw it)) (hp : plainE iter = true) (hb : PSs X body (rdSs W C xw wf b)) :
    PS X (.For tg iter body [] pos) (rdS W C xw wf (.for_ t it b)) := by
  have hg := tg_pg O.toOk O.fnc (fun x k _ h => h) ht
  refine ps_mono (ps_for O.pass O.calm hi hg hb (folded_ok hp X.env)) fun D σ H h => ?_
  obtain ⟨m, h, ρ, rh, s, p⟩ := h
  refine ⟨m, h, ρ, rh, s, ?_⟩
  refine post_mono (posts_out (G := GS W) p) fun J H1 hh => ?_
  obtain ⟨m1, h1, sr, x1, r1, so, p1⟩ := hh
  refine ⟨fun i k σ' H' => k = sr.len - i ∧ i ≤ sr.len ∧ ∃ m' h' ρ', Ext [] m1 H1 m' H' ∧ RelH W.K W.T m' H' h' ∧ RelS W.K m' H' ρ' σ' ∧ PostS W xw m H (forL sr (fun x ρ h => (match setTg t x ρ with | some ρ' => evSs C wf b ρ' h | none => .err)) (sr.len - i) i ρ' h') D,
    ⟨sr.len, rfl, Nat.zero_le _, m1, h1, ρ, Ext.refl, r1, x1.rels s, p1⟩, ?_⟩
  rintro i k σ' H' ⟨rfl, hle, m', h', ρ', x', r', s', p'⟩
  by_cases hlt : i < sr.len
  · have hk : sr.len - i = (sr.len - (i + 1)) + 1 := by omega
    rw [hk] at p'
    unfold forL at p'
    cases eg : sr.get h' i with
    | none => rw [eg] at p'; exact p'.elim
    | some d =>
      rw [eg] at p'
      obtain ⟨go, yl⟩ := so.1 i m' H' h' d x' r' hlt eg
      refine .inr ⟨go, fun σ2 H2 => sr.len - (i + 1) = sr.len - (i + 1) ∧ i + 1 ≤ sr.len ∧ ∃ m' h' ρ', Ext [] m1 H1 m' H2 ∧ RelH W.K W.T m' H2 h' ∧ RelS W.K m' H2 ρ' σ2 ∧ PostS W xw m H (forL sr (fun x ρ h => (match setTg t x ρ with | some ρ' => evSs C wf b ρ' h | none => .err)) (sr.len - (i + 1)) (i + 1) ρ' h') D,
        fun σ2 H2 z => ⟨sr.len - (i + 1), by omega, z⟩, fun y H2 hy => ?_⟩
      obtain ⟨x2, r2, q2⟩ := yl y H2 hy
      simp only at p'
      cases es : setTg t d ρ' with
      | none => simp only [es] at p'; exact p'.elim
      | some ρ2 =>
        simp only [es] at p'
        refine tg_ok O.hK es q2 s'.1 (rels_off (x2.rels s')) fun σ2 rs _ _ => ⟨m', h', ρ2, r2, rs, ?_⟩
        have xa : Ext [] m H m' H2 := (x1.trans0 x').trans0 x2
        have xb : Ext [] m1 H1 m' H2 := x'.trans0 x2
        cases eo : evSs C wf b ρ2 h' with
        | nx ρ3 h3 => rw [eo] at p'; exact fun m3 H3 σ3 x3 r3 s3 => ⟨rfl, hlt, m3, h3, ρ3, xb.trans0 x3, r3, s3, p'⟩
        | ct ρ3 h3 => rw [eo] at p'; exact fun m3 H3 σ3 x3 r3 s3 => ⟨rfl, hlt, m3, h3, ρ3, xb.trans0 x3, r3, s3, p'⟩
        | bk ρ3 h3 => rw [eo] at p'; exact fun m3 H3 σ3 x3 r3 s3 => p' m3 H3 σ3 (xa.trans0 x3) r3 s3
        | rt u h3 => rw [eo] at p'; exact fun m3 H3 v x3 r3 g3 => p' m3 H3 v (xa.trans0 x3) r3 (g3.re xa)
        | exc c w h3 => rw [eo] at p'; exact fun m3 H3 cls d σ3 x3 r3 g3 => p' m3 H3 cls d σ3 (xa.trans0 x3) r3 g3
        | err => rw [eo] at p'; exact p'
  · have e : i = sr.len := by omega
    subst e
    rw [Nat.sub_self] at p'
    unfold forL at p'
    by_cases hf : sr.fin h' = true
    · simp only [hf, if_true] at p'
      exact .inl ⟨so.2 m' H' h' x' r' hf, p' m' H' σ' (x1.trans0 x') r' s'⟩
    · simp only [hf, if_false] at p'
      exact p'.elim
theorem sns_while {c : Expr} {body : List Stmt} {x : E} {b : Ss} {pos : Pos} (O : OkS W C N fns excs lev sc X xw) (hc : PT X c (rdT W C xw x)) (hb : PSs X body (rdSs W C xw wf b)) : PS X (.While c body [] pos) (rdS W C xw wf (.while_ x b)) := by
  refine ps_mono (ps_while O.pass hc hb) fun D σ H h => ?_
  obtain ⟨m, h, ρ, rh, s, p⟩ := h
  have p : PostS W xw m H (whileL (fun ρ h => tstR (evE C x ρ h)) (fun ρ h => evSs C wf b ρ h) wf ρ h) D := p
  refine ⟨fun k σ' H' => ∃ m' h' ρ', Ext [] m H m' H' ∧ RelH W.K W.T m' H' h' ∧ RelS W.K m' H' ρ' σ' ∧ PostS W xw m H (whileL (fun ρ h => tstR (evE C x ρ h)) (fun ρ h => evSs C wf b ρ h) k ρ' h') D,
    ⟨wf, m, h, ρ, Ext.refl, rh, s, p⟩, ?_⟩
  rintro k σ' H' ⟨m', h', ρ', x', r', s', p'⟩
  cases k with
  | zero => exact p'.elim
  | succ k =>
    unfold whileL at p'
    refine ⟨m', h', ρ', r', s', ?_⟩
    refine post_mono (posts_outx (G := GI) p' x') fun q H2 hh => ?_
    obtain ⟨m2, h2, u, x2, r2, g2, p2⟩ := hh
    have g2 : q = u := g2
    subst g2
    have xa : Ext [] m H m2 H2 := x'.trans0 x2
    cases q with
    | false => exact p2 m2 H2 σ' xa r2 (x2.rels s')
    | true =>
      simp only [if_true] at p2
      refine ⟨fun σ3 H3 => ∃ m' h' ρ', Ext [] m H m' H3 ∧ RelH W.K W.T m' H3 h' ∧ RelS W.K m' H3 ρ' σ3 ∧ PostS W xw m H (whileL (fun ρ h => tstR (evE C x ρ h)) (fun ρ h => evSs C wf b ρ h) k ρ' h') D,
        fun σ3 H3 z => ⟨k, Nat.lt_succ_self k, z⟩, m2, h2, ρ', r2, x2.rels s', ?_⟩
      cases eo : evSs C wf b ρ' h2 with
      | nx ρ3 h3 => rw [eo] at p2; exact fun m3 H3 σ3 x3 r3 s3 => ⟨m3, h3, ρ3, xa.trans0 x3, r3, s3, p2⟩
      | ct ρ3 h3 => rw [eo] at p2; exact fun m3 H3 σ3 x3 r3 s3 => ⟨m3, h3, ρ3, xa.trans0 x3, r3, s3, p2⟩
      | bk ρ3 h3 => rw [eo] at p2; exact fun m3 H3 σ3 x3 r3 s3 => p2 m3 H3 σ3 (xa.trans0 x3) r3 s3
      | rt u h3 => rw [eo] at p2; exact fun m3 H3 v x3 r3 g3 => p2 m3 H3 v (xa.trans0 x3) r3 (g3.re xa)
      | exc c w h3 => rw [eo] at p2; exact fun m3 H3 cls d σ3 x3 r3 g3 => p2 m3 H3 cls d σ3 (xa.trans0 x3) r3 g3
      | err => rw [eo] at p2; exact p2

/-! ### a, b = x, y -/
theorem isFun_ok {sc : Scope} (h : isFun sc = true) : sc.kind = .function := by
  unfold isFun at h
  split at h
  · assumption
  · cases h
theorem par_sw {env : Env} {x y : Str} {px py pt pt2 : Pos} {a b : Expr} {kt k2 : Nat} (ha : plainE a = true) (hb : plainE b = true) (h : parOk env.scope x y px py a b = true) : swappedStores [.Tuple [.Name x px, .Name y py] kt pt] (.Tuple [a, b] k2 pt2) env = pure (some [x, y]) := by
  unfold parOk at h
  simp only [Bool.and_eq_true, decide_eq_true_eq, Bool.not_eq_true'] at h
  obtain ⟨⟨⟨⟨⟨⟨h1, h2⟩, h3⟩, h4⟩, h5⟩, h6⟩, h7⟩ := h
  have h1 := isFun_ok h1
  have hb1 : env.blockKind = .function := by unfold Env.blockKind; rw [h1]; rfl
  have kx : env.kindOf x = some .local := h2
  have ky : env.kindOf y = some .local := h3
  have st : ([a, b].any fun | .Starred .. => true | _ => false) = false := by
    cases a <;> cases b <;> first | rfl | (cases ha; done) | (cases hb; done)
  have hl : (py.line == px.line) = true := by
    have := of_decide_eq_true (show decide (px.line = py.line) = true by simpa using h4)
    simp [this]
  have h5' : (y == x) = false := by
    have : x ≠ y := by simpa using h5
    simpa using Ne.symm this
  unfold swappedStores
  have e2 : [x, y].eraseDups.length = 2 := by
    simp [List.eraseDups, List.eraseDupsBy, List.eraseDupsBy.loop, h5']
  show (if (!([Expr.Name x px, Expr.Name y py].length == 2 || [Expr.Name x px, Expr.Name y py].length == 3) || [a, b].length != [Expr.Name x px, Expr.Name y py].length || env.blockKind != .function) = true then _ else _) = _
  rw [if_neg (by rw [hb1]; exact Bool.false_ne_true)]
  refine (if_neg (fun z => ?_)).trans ?_
  · rw [List.any_cons, List.any_cons, List.any_nil, Bool.or_false, Bool.or_eq_true] at z
    rcases z with z | z
    · cases a <;> first | (cases z; done) | (cases ha; done)
    · cases b <;> first | (cases z; done) | (cases hb; done)
  have hl2 : (Expr.Name x px).pos.line = px.line := rfl
  have hl3 : (px.line == px.line) = true := by simp
  simp only [List.filterMap_cons, List.filterMap_nil, List.head?_cons, Option.map_some, Option.getD_some, kx, ky, hl2, hl, hl3]
  show (if ([x, y].length != 2 || [x, y].eraseDups.length != 2) = true then pure none else if [a, b].all (foldedForSure 8) = true then pure none else if [a, b].all (constantsAlone 8) = true then _ else pure (some [x, y])) = _
  rw [e2, if_neg (by exact Bool.false_ne_true), if_neg (by rw [h6]; exact Bool.false_ne_true), if_neg (by rw [h7]; exact Bool.false_ne_true)]
theorem sns_par {x y : Str} {px py pt pt2 pos : Pos} {a b : Expr} {kt k2 i j : Nat} {u w : E} (O : OkS W C N fns excs lev sc X xw) (ha : plainE a = true) (hb : plainE b = true) (h : parOk sc x y px py a b = true) (hi : N[i]? = some x) (hj : N[j]? = some y) (hij : i ≠ j) (pa : PE X a (rdE W C xw u)) (pb : PE X b (rdE W C xw w)) :
    PS X (.Assign [.Tuple [.Name x px, .Name y py] kt pt] (.Tuple [a, b] k2 pt2) pos) (rdS W C xw wf (.par i j u w)) := by
  have hs := h
  unfold parOk at hs
  simp only [Bool.and_eq_true, decide_eq_true_eq] at hs
  refine ps_mono (ps_par (i := i) (j := j) O.calm (by rw [O.hN]; exact O.nd) (by rw [O.hN]; exact hi) (by rw [O.hN]; exact hj) hij (by rw [O.hsc]; exact hs.1.1.1.1.1.2) (by rw [O.hsc]; exact hs.1.1.1.1.2) (pa_cons pa (pa_cons pb pa_nil (star_ok hb [] _)) (star_ok ha _ _)) (par_sw ha hb (by rw [O.hsc]; exact h)) rfl) fun D σ H h => ?_
  obtain ⟨m, h, ρ, rh, s, p⟩ := h
  refine ⟨m, h, ρ, rh, s, ?_⟩
  refine post_mono (posts_out (G := GT W H) p) fun v H1 hh => ?_
  obtain ⟨m1, h1, t1, x1, r1, ⟨F1, q1, f1⟩, p1⟩ := hh
  refine ⟨m1, h1, ρ, r1, x1.rels s, ?_⟩
  refine post_mono (posts_outx (G := GT W H1) p1 x1) fun v2 H2 hh => ?_
  obtain ⟨m2, h2, t2, x2, r2, ⟨F2, q2, f2⟩, p2⟩ := hh
  refine ⟨v, v2, rfl, ?_⟩
  have xa : Ext [] m H m2 H2 := x1.trans0 x2
  have q0 := q1
  replace q1 := q1.ext x2
  have qs : RepTs W.K m2 H2 [t1, t2] [v, v2] (F1 ++ (F2 ++ [])) := .cons q1 (.cons q2 .nil fun a _ => by simp) fun a ha hg => by
    exact RepT.free (F := []) (m' := m1) (H' := H1) Ext.refl q0 a ha (f2 a (by simpa using hg))
  obtain ⟨r3, q3, x3⟩ := qs.name r2
  have xb : Ext [] m H (m2 ++ (F1 ++ (F2 ++ []))) H2 := xa.trans x3 fun a ha => by
    rcases List.mem_append.mp ha with ha | ha
    · exact .inl (f1 a ha)
    · exact .inl (x1.dom a (f2 a (by simpa using ha)))
  have q3 : Reps W.K (m2 ++ (F1 ++ (F2 ++ []))) H2 [(nam t1 h2).1, (nam t2 (nam t1 h2).2).1] [v, v2] := q3
  cases q3 with
  | cons g1 q3 =>
    cases q3 with
    | cons g2 _ =>
      have sb := xb.rels s
      have e := set_off (is := []) (i := j) (d := (nam t2 (nam t1 h2).2).1) (v := v2) (ρ := ρ.set i (some (nam t1 h2).1)) (σ0 := σ.set i (some v)) (W := W) (m := m2 ++ (F1 ++ (F2 ++ []))) (H := H2) (by simpa using s.1) (fun j' d hj e => set_off (is := []) (i := i) s.1 (fun j d _ e => sb.2 j d e) g1 j' d (by simp) e) g2
      exact p2 _ _ _ xb r3 ⟨by simpa using s.1, fun j' d e' => e j' d (by simp) e'⟩
/-! ### x = [..] -/
theorem sns_comp {elt : Expr} {gs : List Comprehension} {scope : Scope} {pos spos px : Pos} {x : Str} {v : E} {i n : Nat} (O : OkS W C N fns excs lev sc X xw) (h : ofE N fns n sc (.ListComp elt gs scope pos) = some v) (hi : N[i]? = some x) (hc : compOk sc scope x px pos = true) : PS X (.Assign [.Name x px] (.ListComp elt gs scope pos) spos) (rdS W C xw wf (.set (.nm i) v)) := by
  cases n with
  | zero => unfold ofE at h; cases h
  | succ n =>
    have ih := snd_all N fns n
    have hp : ∀ (sc : Scope) (e : Expr) (x : E), ofE N fns n sc e = some x → plainE e = true := fun sc e x h => plain_of h
    have he : ∀ (e : Expr) (x : E), ofE N fns n sc e = some x → PE X e (rdE W C xw x) := fun e x h => (ih sc e x h W C lev X xw O.toOk).1
    unfold compOk at hc
    simp only [Bool.and_eq_true, decide_eq_true_eq, Bool.not_eq_true'] at hc
    obtain ⟨⟨⟨c1, c2⟩, c3⟩, c4⟩ := hc
    have c1 := isFun_ok c1
    unfold ofE at h
    split at h <;> first
      | (rename_i z; cases z; done)
      | skip
    · rename_i elt' tg iter ifs scope' p z
      cases z
      split at h
      · rename_i hb
        split at h
        · cases h
        · rename_i t e0
          split at h
          · rename_i hs
            split at h
            · rename_i it c y e1 e2 e3
              cases h
              obtain ⟨hit, hpl⟩ := it_pi O.toOk (hp sc) he e1
              have hsl : ∀ x k, k ≠ .free → scope.names.lookup x = some k → (relS scope sc).names.lookup x = some k := fun x k hk hl => lookup_relS_keep hk hl
              have ok : BlkOk X.N X.env.scope scope (ownOf N scope) := by rw [O.hN, O.hsc]; exact blkOk_by hb
              have hsw : swapsWith (.ListComp elt [⟨tg, iter, ifs, 0⟩] scope pos) (some (.Name x px)) spos.line X.env = pure true := sw_true (by rw [O.hsc]; exact c1) (by rw [O.hsc]; exact c2) c3 c4
              refine ps_mono (ps_setLc (own := ownOf N scope) (g := gTg X.K t) (tt := rdC W C xwF c) (te := rdE W C xwF y) (i := i) O.calm (by rw [O.hN]; exact O.nd) (by rw [O.hN]; exact hi) (by rw [O.hsc]; exact c2) hsw hit ok (fun s H Cc cl fp => ?_) (fun s H Cc cl fp => ?_) (fun s H Cc cl fp => ?_) (folded_ok hpl X.env)) fun D σ H h => ?_
              · exact tg_pg (O.toOk.blk (s := s) (H := H) (Cc := Cc) (cl := cl) (fp := fp)) (fun z hz => by show (scope.names.lookup z == some .cell) = true; rw [hz]; rfl) hsl e0
              · exact tests_ok (fun a z e => (ih _ a z e W C lev _ xwF (O.toOk.blk (s := s) (H := H) (Cc := Cc) (cl := cl) (fp := fp))).2) e2
              · exact (ih _ elt y e3 W C lev _ xwF (O.toOk.blk (s := s) (H := H) (Cc := Cc) (cl := cl) (fp := fp))).1
              · obtain ⟨m, h, ρ, rh, s, p⟩ := h
                have p0 := post_mono (posts_out (σ := σ) (G := GT W H) p) (Q' := fun v H1 => gTg X.K (.nm i) v σ H1 D.nx) fun v H1 hh => by
                  obtain ⟨m1, h1, u, x1, r1, ⟨F, q1, f1⟩, p1⟩ := hh
                  exact set_ok O.toOk x1 r1 s q1 f1 p1
                rw [comp_eq] at p0
                refine lc_ok (xw := xw) O.hK (fun i => sameSlots_ok hs i) s ⟨m, h, ρ, rh, s, post_mono (post_bind (G := GS W) p0) fun J H1 hh => ?_⟩ fun σ H R R' k ⟨m, h, ρ, rh, s, p⟩ => ⟨m, h, ρ, rh, s, post_mono p k⟩
                obtain ⟨m1, h1, sr, x1, r1, g1, p1⟩ := hh
                exact ⟨m1, h1, sr, x1, r1, g1, p1⟩
            · cases h
          · cases h
      · cases h
    · cases h
/-! ### raise -/
theorem sns_raise {c : Str} {a : Expr} {x : E} {p q pos : Pos} (O : OkS W C N fns excs lev sc X xw) (hg : sc.names.lookup c = some .globalImplicit) (hn : okName c = true) (hc : c ∈ excs) (he : PE X a (rdE W C xw x)) (ha : plainE a = true) : PS X (.Raise (some (.Call (.Name c p) [a] [] q)) none pos) (rdS W C xw wf (.raise c x)) := by
  refine ps_mono (L2N.ps_raise O.calm O.takes (O.mks c hc C xw a x p q (by rw [O.hsc]; exact hg) hn he (star_ok ha [] _))) fun D σ H h => ?_
  obtain ⟨m, h, ρ, rh, s, p⟩ := h
  refine ⟨m, h, ρ, rh, s, ?_⟩
  refine post_mono (posts_out (G := GT W H) p) fun v H1 hh => ?_
  obtain ⟨m1, h1, u, x1, r1, ⟨F, q1, f1⟩, p1⟩ := hh
  intro dd fs hd hw
  obtain ⟨r2, q2, x2⟩ := q1.name r1
  have x3 : Ext [] m H (m1 ++ F) H1 := x1.trans x2 fun a ha => .inl (f1 a ha)
  have x4 : Ext [] (m1 ++ F) H1 (m1 ++ F) (upd H1 dd (.xd fs)) := Ext.new hd
  exact p1 _ _ _ _ σ (x3.trans0 x4) (r2.new hd) ⟨rfl, dd, fs, v, rfl, upd_same, hw, x4.rep q2⟩
end
end Mill

set_option Elab.async false
set_option linter.all false
set_option maxRecDepth 100000
set_option maxHeartbeats 4000000
/-! Mill15: x = zip(..), then its join; every statement. -/
namespace Mill
open PySem PySem.Spec PyProof.Rows L2
section
variable {W : Wd} {C : Cfg} {N fns excs : List Str} {lev : Nat} {sc : Scope} {X : Cx} {xw : WX} {σ : L2.St} {m m1 : List Addr} {H H1 : Hp} {h h1 : AH} {wf : Nat} {D D' : Ends}
theorem clr_rels {ρ : Sl} {i : Nat} {v : V} (s : RelS W.K m H ρ σ) : RelS W.K m H (ρ.set i none) (σ.set i (some v)) := ⟨by simpa using s.1, fun j d e => by
  by_cases hj : i = j
  · subst hj
    by_cases hl : i < ρ.length
    · rw [List.getElem?_set_self hl] at e; cases e
    · rw [List.getElem?_eq_none (by simpa using hl)] at e; cases e
  · rw [List.getElem?_set_ne hj] at e
    rw [List.getElem?_set_ne hj]
    exact s.2 j d e⟩
theorem clr_rels0 {ρ : Sl} {i : Nat} (s : RelS W.K m H ρ σ) : RelS W.K m H (ρ.set i none) σ := ⟨by simpa using s.1, fun j d e => by
  by_cases hj : i = j
  · subst hj
    by_cases hl : i < ρ.length
    · rw [List.getElem?_set_self hl] at e; cases e
    · rw [List.getElem?_eq_none (by simpa using hl)] at e; cases e
  · rw [List.getElem?_set_ne hj] at e
    exact s.2 j d e⟩
theorem join_eq (sep : Str) (e : E) (ρ : Sl) (h : AH) : evE C (.meth "join" (.str sep) (.cons e .nil)) ρ h = (evE C e ρ h).bind fun u h1 => mJoin (.d (.str sep)) u h1 := by
  have e1 : evE C (.meth "join" (.str sep) (.cons e .nil)) ρ h = ((evE C e ρ h).bind fun t h1 => (R.ok [] h1 : R (List Tm)).bind fun ts h2 => .ok (t :: ts) h2).bind fun ts h2 => methT "join" (.d (.str sep)) ts h2 := by
    show (if recvOk "join" (.d (.str sep)) h = true then (evEs C (.cons e .nil) ρ h).bind fun ts h2 => methT "join" (.d (.str sep)) ts h2 else .err) = _
    have hr : recvOk "join" (.d (.str sep)) h = true := by
      show (("join" : Str) == "join") = true
      decide +kernel
    rw [if_pos hr]
    rfl
  rw [e1]
  cases evE C e ρ h <;> rfl
theorem snz {N fns excs : List Str} {lev : Nat} {sc : Scope} (O : OkS W C N fns excs lev sc X xw) {sts : List Stmt} {ss : Ss} (h : ofZip N fns sc sts = some ss) : PSs X sts (rdSs W C xw wf ss) := by
  unfold ofZip at h
  split at h
  · rename_i x px zz pz a b c pc spos sep kk p0 mj apos elt ts tk tpos x' px' ifs scope lp p2 rpos
    split at h
    · rename_i hc
      obtain ⟨⟨rfl, hg, rfl, rfl, hn, hx⟩, hl, hb⟩ := hc
      have hg := of_decide_eq_true hg
      split at h
      · rename_i i xa xb xc is e0 e1 e2 e3 e4
        split at h
        · rename_i hs
          split at h
          · rename_i cc y e5 e6
            cases h
            have ih := snd_all N fns 59
            have hp : ∀ (sc : Scope) (e : Expr) (x : E), ofE N fns 59 sc e = some x → plainE e = true := fun sc e x h => plain_of h
            have he : ∀ (e : Expr) (x : E), ofE N fns 59 sc e = some x → PE X e (rdE W C xw x) := fun e x h => (ih sc e x h W C lev X xw O.toOk).1
            have st1 := star_ok (hp _ _ _ e1) [b, c] X.env
            have st2 := star_ok (hp _ _ _ e2) [c] X.env
            have st3 := star_ok (hp _ _ _ e3) [] X.env
            have hsl : ∀ x k, k ≠ .free → scope.names.lookup x = some k → (relS scope sc).names.lookup x = some k := fun x k hk hl => lookup_relS_keep hk hl
            have ok : BlkOk X.N X.env.scope scope (ownOf N scope) := by rw [O.hN, O.hsc]; exact blkOk_by hb
            have hxl : X.env.scope.names.lookup x = some .local := by rw [O.hsc]; exact hx
            have hN : X.N[i]? = some x := by rw [O.hN]; exact slotOf_ok e0
            have pl : PE X (.ListComp elt [⟨.Tuple ts tk tpos, .Name x px', ifs, 0⟩] scope lp) (tLc (iZv X.K X.s_0.heap.objs.size i) (gTg X.K (.tp is)) (rdC W C xwF cc) (rdE W C xwF y) ((ownOf N scope).map (·.2))) :=
              pe_lc (own := ownOf N scope) O.calm (by rw [O.hN]; exact O.nd) (pi_zv hN (.inl hxl) (okName_ok hn).1 (okName_ok hn).2) ok
                (fun s H Cc cl fp => tg_pg (t := .tp is) (O.toOk.blk (s := s) (H := H) (Cc := Cc) (cl := cl) (fp := fp)) (fun z hz => by show (scope.names.lookup z == some .cell) = true; rw [hz]; rfl) hsl (by show (ofNames N scope ts).map Tg.tp = _; rw [e4]; rfl))
                (fun s H Cc cl fp => tests_ok (fun a z e => (ih _ a z e W C lev _ xwF (O.toOk.blk (s := s) (H := H) (Cc := Cc) (cl := cl) (fp := fp))).2) e5)
                (fun s H Cc cl fp => (ih _ elt y e6 W C lev _ xwF (O.toOk.blk (s := s) (H := H) (Cc := Cc) (cl := cl) (fp := fp))).1) (fun _ => rfl)
            refine ⟨fun pins s σ H D I hh => ?_⟩
            obtain ⟨m, h, ρ, rh, s', p⟩ := hh
            have p : PostS W xw m H (match (evE C (.meth "join" (.str sep) (.cons (.comp y (.tp is) (.zip3 xa xb xc) cc) .nil)) (ρ.set i none) h).out fun x h1 => .rt x h1 with | .nx ρ1 h1 => .nx ρ1 h1 | o => o) D := p
            have p1 : ∀ σ, Post W xw σ m H (GT W H) (evE C (.meth "join" (.str sep) (.cons (.comp y (.tp is) (.zip3 xa xb xc) cc) .nil)) (ρ.set i none) h) D.rt := fun σ => by
              generalize evE C (.meth "join" (.str sep) (.cons (.comp y (.tp is) (.zip3 xa xb xc) cc) .nil)) (ρ.set i none) h = r at p
              cases r with
              | ok t h1 => exact fun m1 H1 v x r g => p m1 H1 v x r g
              | exc c w h1 => exact fun m1 H1 cls d x r g => p m1 H1 cls d σ x r g
              | err => exact p
            rw [join_eq] at p1
            have key : rdZ W C xw xa xb xc σ H (fun a b c H1 => ∃ m1 h1 sr, Ext [] m H m1 H1 ∧ RelH W.K W.T m1 H1 h1 ∧ SrcOk W sr (Itz3 W.K a b c) m1 H1 ∧ ∀ σ, Post W xw σ m H (GT W H) (compL sr (compStep C y (.tp is) cc (ρ.set i none)) sr.len 0 [] h1)
                (fun v H2 => ∃ m2 h2 t, Ext [] m H m2 H2 ∧ RelH W.K W.T m2 H2 h2 ∧ GT W H t v m2 H2 ∧ Post W xw σ m H (GT W H) (mJoin (.d (.str sep)) t h2) D.rt)) := by
              refine ⟨m, h, ρ.set i none, rh, clr_rels0 s', ?_⟩
              have q := fun σ => post_bind (G := GT W H) (p1 σ)
              simp only [comp_eq] at q
              generalize evI C (.zip3 xa xb xc) (ρ.set i none) h = r at q
              cases r with
              | ok sr h1 => exact fun m1 H1 abc x1 r1 g => ⟨m1, h1, sr, x1, r1, g, fun σ => q σ⟩
              | exc c w h1 => exact q σ
              | err => exact q σ
            refine wpAny_execs_cons (wpAny_Assign_Name (thn (zip3_made (show X.env.scope.names.lookup _ = _ by rw [O.hsc]; exact hg) (O.blt "zip" (.inr (.inl (by decide +kernel)))) (pa_cons (he _ _ e1) (pa_cons (he _ _ e2) (pa_cons (he _ _ e3) pa_nil st3) st2) st1) st1 (by rw [st2, st3]; rfl) I (by rw [O.hK]; exact zip3_args (he _ _ e1) (he _ _ e2) (he _ _ e3) st1 st2 st3 key)) fun v s1 hz => ?_) rfl)
            obtain ⟨z, TI, TO, i1, i2, i3, za, zb, zc, H1, ev, I1, zat, sep3, f, ⟨m1, h1, sr, x1, r1, so, pc⟩, Ih⟩ := hz
            subst ev
            refine store_ok (v := V.ref z) Ih (by rw [O.hN]; exact O.nd) hN (.inl hxl) rfl (fun s2 I2 => ?_) (.inr hxl)
            have hil : i < σ.length := by rw [I.len]; exact (List.getElem?_eq_some_iff.mp hN).1
            refine (pss_one (ps_ret (pe_join pe_str pl rfl rfl hl))).run pins s2 _ _ D I2 ?_
            refine ⟨⟨sep, rfl⟩, ?_⟩
            refine lc_ok (xw := xw) (m := m) (H := H) (ρ := ρ.set i none) O.hK (fun j => sameSlots_ok hs j) (clr_rels s') ?_ fun σ H R R' k ⟨z, TI, TO, i1, i2, i3, a, b, c, H0, g, q1, q2, q3, q4, q5, q6⟩ => ⟨z, TI, TO, i1, i2, i3, a, b, c, H0, g, q1, q2, q3, q4, q5, k _ _ q6⟩
            refine ⟨z, TI, TO, i1, i2, i3, za, zb, zc, H1, s1.heap, by rw [List.getElem?_set_self hil], rfl, zat, sep3, fun d hd => ⟨(f d hd).1.1, (f d hd).2⟩, m1, h1, sr, x1, r1, by rw [O.hK]; exact so, ?_⟩
            refine post_mono (pc _) fun v H2 hh => ?_
            obtain ⟨m2, h2, t, x2, r2, ⟨F, q2, f2⟩, p3⟩ := hh
            exact jn_ok X.K O.hK r2 (RepT.of (.str sep)) q2 (post_reT p3 x2)
          · cases h
        · cases h
      · cases h
    · cases h
  · cases h
theorem snss {N fns excs : List Str} {lev : Nat} {sc : Scope} (O : OkS W C N fns excs lev sc X xw) {f : Stmt → Option S} (hf : ∀ s x, f s = some x → PS X s (rdS W C xw wf x)) : ∀ (sts : List Stmt) (ss : Ss), ofSs (ofZip N fns sc) f sts = some ss → PSs X sts (rdSs W C xw wf ss)
  | [], ss, h => by cases h; exact sns_nil
  | st :: sts, ss, h => by
    unfold ofSs at h
    split at h
    · rename_i x e
      cases h
      exact snz O e
    · split at h
      · rename_i e1 e2
        cases h
        exact sns_cons (hf _ _ e1) (snss O hf sts _ e2)
      · cases h
theorem sns_all {N fns excs : List Str} {lev : Nat} {sc : Scope} (O : OkS W C N fns excs lev sc X xw) : ∀ (n : Nat) (s : Stmt) (x : S), ofS N fns excs sc n s = some x → PS X s (rdS W C xw wf x)
  | 0, s, x, h => by unfold ofS at h; cases h
  | n + 1, s, x, h => by
    have ih := sns_all O n
    have hp : ∀ (e : Expr) (x : E), ofE N fns 60 sc e = some x → plainE e = true := fun e x h => plain_of h
    have he : ∀ (e : Expr) (x : E), ofE N fns 60 sc e = some x → PE X e (rdE W C xw x) := fun e x h => (snd_all N fns 60 sc e x h W C lev X xw O.toOk).1
    have ht : ∀ (e : Expr) (x : E), ofE N fns 60 sc e = some x → PT X e (rdT W C xw x) := fun e x h => (snd_all N fns 60 sc e x h W C lev X xw O.toOk).2
    unfold ofS at h
    split at h
    · -- Expr
      rename_i e p
      split at h
      · cases h
      · rename_i hc
        cases e1 : ofE N fns 60 sc e with
        | none => rw [e1] at h; cases h
        | some y => rw [e1] at h; cases h; exact sns_ex (he _ _ e1) (by simpa using hc)
    · -- comprehension
      split at h
      · rename_i hc
        split at h
        · rename_i e1 e2
          cases h
          exact sns_comp O e2 (slotOf_ok e1) hc
        · cases h
      · cases h
    · -- par
      split at h
      · rename_i hc
        split at h
        · rename_i i j u w e1 e2 e3 e4
          split at h
          · rename_i hij
            cases h
            exact sns_par O (hp _ _ e3) (hp _ _ e4) hc (slotOf_ok e1) (slotOf_ok e2) hij (he _ _ e3) (he _ _ e4)
          · cases h
        · cases h
      · cases h
    · -- setIx
      split at h
      · cases h
      · rename_i hc
        split at h
        · rename_i e1 e2 e3
          cases h
          exact sns_setIx O (he _ _ e1) (he _ _ e2) (hp _ _ e2) (he _ _ e3) (by simpa using hc)
        · cases h
    · -- set
      split at h
      · cases h
      · rename_i hc
        simp only [Bool.or_eq_true, not_or, Bool.not_eq_true] at hc
        split at h
        · rename_i e1 e2
          cases h
          exact sns_set O e1 (he _ _ e2) hc.2 hc.1
        · cases h
    · rename_i e p
      cases e1 : ofX N fns excs sc e with
      | none => rw [e1] at h; cases h
      | some y => rw [e1] at h; cases h; exact sns_ret (snd_x O e1).1
    · cases h; exact sns_retN
    · -- if
      split at h
      · rename_i e1 e2 e3
        cases h
        exact sns_ite (snd_x O e1).2 (snss O ih _ _ e2) (snss O ih _ _ e3)
      · cases h
    · -- for
      split at h
      · rename_i e1 e2 e3
        cases h
        obtain ⟨hi, hpl⟩ := it_pi O.toOk hp he e2
        exact sns_for O e1 hi hpl (snss O ih _ _ e3)
      · cases h
    · split at h
      · rename_i e1 e2
        cases h
        exact sns_while O (ht _ _ e1) (snss O ih _ _ e2)
      · cases h
    · -- raise
      rename_i c p e q pos
      split at h
      · rename_i hc
        cases e1 : ofE N fns 60 sc e with
        | none => rw [e1] at h; cases h
        | some y => rw [e1] at h; cases h; exact sns_raise O (of_decide_eq_true hc.2.1) hc.1 hc.2.2 (he _ _ e1) (hp _ _ e1)
      · cases h
    · cases h; exact sns_pass
    · cases h; exact sns_brk
    · cases h; exact sns_cnt
    · cases h
end
end Mill

set_option Elab.async false
set_option linter.all false
set_option maxRecDepth 100000
set_option maxHeartbeats 4000000
/-! Mill16: a def's end. -/
namespace Mill
open PySem PySem.Spec PyProof.Rows L2
section
variable {K : PySem.W.Frag} {m ns : List Addr} {H : Hp}
mutual
theorem Rep.lower : ∀ {d : D} {v : V}, below m.length d = true → Rep K (m ++ ns) H d v → Rep K m H d v
  | _, _, _, .non => .non
  | _, _, _, .bl b => .bl b
  | _, _, _, .int b => .int b
  | _, _, _, .str b => .str b
  | _, _, h, .tup q r => .tup q (Reps.lower (by unfold below at h; exact h) r)
  | _, _, h, .ref q => .ref (by
      have hn := of_decide_eq_true (show decide _ = true by unfold below at h; exact h)
      rw [List.getElem?_append_left hn] at q
      exact q)
  | _, _, h, .fro q r => .fro q (Reps.lower (by unfold below at h; exact h) r)
theorem Reps.lower : ∀ {ds : List D} {vs : List V}, belows m.length ds = true → Reps K (m ++ ns) H ds vs → Reps K m H ds vs
  | _, _, _, .nil => .nil
  | _, _, h, .cons q r => by
    unfold belows at h
    rw [Bool.and_eq_true] at h
    exact .cons (Rep.lower h.1 q) (Reps.lower h.2 r)
end
theorem Ext.cut {F : List Addr} {H1 : Hp} (x : Ext F m H (m ++ ns) H1) : Ext F m H m H1 := ⟨⟨[], by simp, fun _ h => absurd h (by simp)⟩, x.keep, x.imm, x.dom⟩
theorem RelH.cut {T : List (Addr × Str)} {h1 : AH} (r : RelH K T (m ++ ns) H h1) (hb : (h1.take m.length).all (belowC m.length) = true) : RelH K T m H (h1.take m.length) := by
  have hl : m.length ≤ h1.length := by have := r.len; rw [List.length_append] at this; omega
  refine ⟨by rw [List.length_take]; omega, (List.nodup_append.mp r.nd).1, fun n a ds e1 e2 => ?_, r.tab⟩
  have hn : n < m.length := (List.getElem?_eq_some_iff.mp e1).1
  have e3 : h1[n]? = some (.lst ds) := by
    rw [List.getElem?_take_of_lt hn] at e2
    exact e2
  obtain ⟨vs, q1, q2⟩ := r.cell n a ds (by rw [List.getElem?_append_left hn]; exact e1) e3
  refine ⟨vs, q1, Reps.lower ?_ q2⟩
  have := List.all_eq_true.mp hb (.lst ds) (List.mem_of_getElem? e2)
  exact this
end
section
variable {W : Wd} {F m m0 : List Addr} {H : Hp} {h : AH} {Q : VK} {Ex : XK}
theorem post_leave {t : Tm} {h1 : AH} {m1 : List Addr} {H1 : Hp} {v : V} {G : List Addr} (hl : m.length = h.length) (p : PostC W F m H (leave h.length t h1) Q Ex) (x : Ext F m H m1 H1) (r : RelH W.K W.T m1 H1 h1) (q : RepT W.K m1 H1 t v G) (fr : ∀ a ∈ G, H a = none ∨ a ∈ F) : Q v H1 := by
  have raw : PostC W F m H (.ok t h1) Q Ex → Q v H1 := fun p => p m1 H1 v G x r q fr
  obtain ⟨ns, e1, n1⟩ := x.pre
  subst e1
  rw [← hl] at p
  unfold leave at p
  by_cases hb : (h1.take m.length).all (belowC m.length) = true
  · rw [if_pos hb] at p
    have r2 := r.cut hb
    have x2 := x.cut
    split at p
    · rename_i k
      by_cases hk : k < m.length
      · rw [if_pos hk] at p
        exact p m H1 v G x2 r2 ⟨Rep.lower (by unfold below; exact decide_eq_true hk) q.1, q.2⟩ fr
      · rw [if_neg hk] at p
        obtain ⟨q1, q2⟩ := q
        cases q1 with
        | @ref _ a hn =>
          cases hc : h1[k]? with
          | none => simp only [hc] at p; exact p (m ++ ns) H1 _ G x r ⟨.ref hn, q2⟩ fr
          | some c =>
            cases c with
            | lst ds =>
              simp only [hc] at p
              by_cases hbs : belows m.length ds = true
              · rw [if_pos hbs] at p
                obtain ⟨vs, g1, g2⟩ := r.cell k a ds hn hc
                have ha : a ∈ ns := by
                  rw [List.getElem?_append_right (by omega)] at hn
                  exact List.mem_of_getElem? hn
                have hm : a ∉ m := fun z => (List.nodup_append.mp r.nd).2.2 a z a ha rfl
                exact p m H1 (.ref a) [a] x2 r2 ⟨a, vs, rfl, g1, Reps.lower hbs g2, hm, rfl⟩ fun b hb' => by
                  have : b = a := by simpa using hb'
                  subst this
                  exact n1 b ha
              · rw [if_neg hbs] at p
                exact p (m ++ ns) H1 _ G x r ⟨.ref hn, q2⟩ fr
    · rename_i y _
      by_cases hy : below m.length y = true
      · rw [if_pos hy] at p
        exact p m H1 v G x2 r2 ⟨Rep.lower hy q.1, q.2⟩ fr
      · rw [if_neg hy] at p; exact raw p
    · rename_i ds
      by_cases hbs : belows m.length ds = true
      · rw [if_pos hbs] at p
        obtain ⟨a, vs, g1, g2, g3, g4, g5⟩ := q
        exact p m H1 v G x2 r2 ⟨a, vs, g1, g2, Reps.lower hbs g3, fun z => g4 (List.mem_append_left _ z), g5⟩ fr
      · rw [if_neg hbs] at p; exact raw p
  · rw [if_neg hb] at p; exact raw p
theorem post_leaveX {c : Str} {w : D} {h1 : AH} {m1 : List Addr} {H1 : Hp} {cls : Value} {d : Option Addr} (hl : m.length = h.length) (p : PostC W F m H (leaveX h.length c w h1) Q Ex) (x : Ext F m H m1 H1) (r : RelH W.K W.T m1 H1 h1) (q : ExcAt W m1 H1 c w cls d) : Ex cls d H1 := by
  obtain ⟨ns, e1, n1⟩ := x.pre
  subst e1
  rw [← hl] at p
  unfold leaveX at p
  by_cases hb : ((h1.take m.length).all (belowC m.length) && below m.length w) = true
  · rw [if_pos hb] at p
    rw [Bool.and_eq_true] at hb
    obtain ⟨q1, dd, fs, vw, q2, q3, q4, q5⟩ := q
    exact p m H1 cls d x.cut (r.cut hb.1) ⟨q1, dd, fs, vw, q2, q3, q4, Rep.lower hb.2 q5⟩
  · rw [if_neg hb] at p
    exact p _ H1 cls d x r q
theorem post_finish {o : O} (hl : m.length = h.length) (p : PostC W F m H (finish h.length o) Q Ex) (x0 : Ext F m H m0 H) (hF : ∀ a ∈ F, H a ≠ none) : PostS W (fun cls d _ H => Ex cls d H) m0 H o { nx := fun _ H' => Q .non H', rt := Q } := by
  cases o with
  | nx ρ h1 => exact fun m1 H1 σ1 x r s => post_leave hl p (x0.trans0 x) r ⟨.non, rfl⟩ fun _ z => absurd z (by simp)
  | rt t h1 => exact fun m1 H1 v x r ⟨G, q, fr⟩ => post_leave hl p (x0.trans0 x) r q fun a ha => .inl (fr a ha)
  | bk ρ h1 => exact p.elim
  | ct ρ h1 => exact p.elim
  | exc c w h1 => exact fun m1 H1 cls d σ1 x r q => post_leaveX hl p (x0.trans0 x) r q
  | err => exact p.elim
theorem start_rels {N ps : List Str} {ts : List Tm} {vs : List V} {n : Nat} {ds : List D} (r : Reps W.K m H ds vs) (hn : n = N.length) (hp : vs.length = ps.length) : RelS W.K m H (ds.map some ++ List.replicate (n - ps.length) none) (L2.start N vs) := by
  subst hn
  unfold L2.start
  refine ⟨by simp [r.length, hp], fun i d e => ?_⟩
  by_cases hi : i < ds.length
  · rw [List.getElem?_append_left (by simpa using hi), List.getElem?_map] at e
    cases e1 : ds[i]? with
    | none => rw [e1] at e; cases e
    | some d' =>
      rw [e1] at e
      cases e
      obtain ⟨v, g1, g2⟩ := r.get e1
      exact ⟨v, by rw [List.getElem?_append_left (by rw [List.length_map, ← r.length]; exact hi), List.getElem?_map, g1]; rfl, g2⟩
  · rw [List.getElem?_append_right (by simpa using hi), List.getElem?_replicate] at e
    split at e <;> cases e
end
end Mill

set_option Elab.async false
set_option linter.all false
set_option maxRecDepth 100000
set_option maxHeartbeats 4000000
/-! Mill17: an own exception's class called: super().__init__(..) in its own __init__. -/
namespace Mill
open PySem PySem.Spec PyProof.Rows L2 NdefX

/-- the closure function at f, an __init__ of the class at D; its first parameter is x0 -/
structure SupC (P : Program) (K : PySem.W.Frag) (mg : Str → Option Value) (f : Addr) (F : NF) (fd : FuncData) (cc D : Addr) (x0 : Str) : Prop where
  look : ∃ oc od osl, K.lookup f = some ⟨oc, od, .func fd, osl⟩
  fdb : fd.body = .stmts F.body
  fds : fd.scope = F.scope
  fdc : fd.code = .ref F.c
  fdq : fd.qualname = F.qual
  cl : F.cl = [(("__class__" : Str), cc)]
  env : ∀ L, callEnv fd L f = envF F f L
  hd : ∃ ar, (fd.params.posonlyargs ++ fd.params.args).head? = some ar ∧ ar.arg = x0
  code : PySem.W.codeIn K (.ref F.c) F.qual = true
  file : ∃ oc od vs osl file tf, K.lookup F.c = some ⟨oc, od, .fields vs, osl⟩ ∧ vs[2]? = some (.str file tf) ∧ ((P.main.file : Str) == file) = true
  cell : ∃ cl cld csl, K.lookup cc = some ⟨cl, cld, .cell (some (.ref D)), csl⟩
  cls : ∃ cdD, PySem.W.clsIn K D = some cdD
  top : (P.main.scope.names.lookup ("super" : Str)).isSome = false
  sup : mg "super" = none
  stat : PySem.W.nsIn K cStatics "thirdparty.any" = some none
  ks : F.scope.names.lookup ("super" : Str) = some .globalImplicit
  kc : F.scope.names.lookup ("__class__" : Str) = some .free
  kx : F.scope.names.lookup x0 = some .local
abbrev supObj (D x C : Addr) : Obj := { cls := .type "super", dict := none, data := .fields #[.ref D, .ref x, .ref C], slots := #[] }
section
variable {CX : CXT} {P : Program} {w : World} {K : PySem.W.Frag} {mg : Str → Option Value} {base : Heap} {N ps : List Str} {F : NF} {f cc D : Addr} {fd : FuncData} {x0 : Str} {A : Around} {outer : List Env} {s0 : Shared} {H0 H : Hp} {E : XK}
theorem sup_attr {pins : List (Addr × Obj)} {σ : L2.St} {s : Shared} {a C : Addr} {dv : Option Addr} {p0 p1 : Pos} {attr : Str} {whole : Sem Value} {body : List Stmt} {Q : Value → Shared → Prop} {EE : Value → Shared → Prop} (T : SupC P K mg f F fd cc D x0) (I : Inv (ncx CX P w K mg base N F f A outer s0 H0 E) pins σ H s)
    (ha : H a = some (exo a C dv)) (h0 : N[0]? = some x0) (hv : σ[0]? = some (some (.ref a))) (hat : (attr == ("__class__" : Str)) = false) (hsub : PySem.W.mroIn K C (.ref D) = some true)
    (h : ∀ so h', Inv (ncx CX P w K mg base N F f A outer s0 H0 E) pins σ H { s with heap := h' } → h'.get? so = some (supObj D a C) → Q (.ref so) { s with heap := h' }) :
    _root_.PySem.wpAt (model P w) (A.deeper (envF F f s0.heap.objs.size)) (.func body (envF F f s0.heap.objs.size)) (attributeBase (.Call (.Name "super" p0) [] [] p1) attr (envF F f s0.heap.objs.size) whole) Q EE s := by
  obtain ⟨oc, od, osl, hf⟩ := T.look
  obtain ⟨ar, hp, rfl⟩ := T.hd
  obtain ⟨occ, odc, vs, osc, file, tf, hcode, hvs, hfile⟩ := T.file
  obtain ⟨cl, cld, csl, hcell⟩ := T.cell
  obtain ⟨cdD, hD⟩ := T.cls
  have X : K.In s.heap := I.kIn
  obtain ⟨t1, ho⟩ := exo_at I.hok ha
  obtain ⟨oD, hD1, hD2⟩ : ∃ oD, s.heap.get? D = some oD ∧ oD.data = .cls cdD := by
    unfold PySem.W.clsIn at hD
    split at hD
    · rename_i c d cd' sl ho
      cases hD
      exact ⟨_, X _ _ ho, rfl⟩
    · cases hD
  have hcl : (envF F f s0.heap.objs.size).cells.lookup ("__class__" : Str) = some cc := by
    show F.cl.lookup _ = _
    rw [T.cl]
    rfl
  refine ks_wpAt_super_base (env := envF F f s0.heap.objs.size) T.ks T.kc hat rfl (X _ _ hf) rfl hp rfl (X _ _ hcode) rfl hvs hfile T.top ?_
  obtain ⟨mb, b1, b2⟩ := I.mod.blt
  refine PySem.W.ks_loadName_global I.ok.kind T.ks (Calls.loadGlobal_builtin (I.mod.glob.keeps I.bk) T.sup (b1.keeps I.bk) ((b2 _ (by decide)).trans PyProof.Rows.Boot.«super») ⟨rfl, ?_⟩)
  refine wpAny_loadName_free I.ok.kind T.kc hcl ⟨_, X _ _ hcell, rfl⟩ ?_
  obtain ⟨m, hn, hl⟩ := I.loc
  obtain ⟨u, ru, lk⟩ := hl 0 ar.arg (.ref a) h0 hv (.inl T.kx)
  obtain rfl : u = Value.ref a := ru
  have hmv : m ar.arg = some (.ref a) := by
    rcases lk with ⟨_, z⟩ | ⟨z, _⟩
    · exact z
    · have z : F.scope.names.lookup ar.arg = some .cell ∨ F.scope.names.lookup ar.arg = some .free := z
      rw [T.kx] at z
      rcases z with z | z <;> cases z
  refine wpAny_loadName_local I.ok.kind T.kx hn hmv ?_
  obtain ⟨hh, g, d, t, os⟩ := s
  refine ks_wpAny_isType_cls hD1 hD2 ⟨rfl, ?_⟩
  refine ks_wpAny_call_super hD1 hD2 ho rfl (fun c e => nomatch e) (PySem.W.looks_mroIn X hsub) (fun h' e k => ?_)
  exact h _ h' (I.kept (t' := t) k) e
/-- the call of such a function, up to its body -/
theorem sup_enter {R : Result → Shared → Prop} {s : Shared} {args : Args} {us : List Value} {vs : List V} {k : Nat} (T : SupC P K mg f F fd cc D x0) (S : NScope N ps ["__class__"] F.scope) (hr : Room (k + 1) A) (e0 : Env0 P w K mg base A outer s H) (hb : BindsTo s fd args (ps.zip us)) (r : Vals vs us) (hl : vs.length = ps.length)
    (h : ∀ s1, Inv (ncx CX P w K mg base N F f A outer s H E) [] (startF N vs [some (.ref D)]) H s1 →
      _root_.PySem.wpAt (model P w) (A.deeper (envF F f s.heap.objs.size)) (.func F.body (envF F f s.heap.objs.size)) (execs F.body (envF F f s.heap.objs.size)) (fun fl s' => R (.ok (.ret (match fl with | .ret v => v | _ => .none))) s')
        (fun e s' => wpAny (model P w) (A.deeper (envF F f s.heap.objs.size)) (leaving (envF F f s.heap.objs.size) e) (fun _ s'' => R (.error e) s'') (fun e' s'' => R (.error e') s'') s') s1) :
    codeAny (model P w) A (.call (.ref f) args) R s := by
  have KX : K.In s.heap := e0.mod.kin.keeps fun b o e => (e0.bs b o e).1
  have lim : s.heap.NoLimit := e0.mod.nolimit.keeps fun b o e => (e0.bs b o e).1
  obtain ⟨oc, od, osl, lk⟩ := T.look
  obtain ⟨cl, cld, csl, hcell⟩ := T.cell
  have C : CellsAt F.cl ["__class__"] [some (V.ref D)] s.heap H := by
    have hc : F.cl = [(("__class__" : Str), cc)] := T.cl
    have one : ∀ y c, F.cl.lookup y = some c → y = "__class__" ∧ c = cc := fun y c e => by
      rw [hc] at e
      simp only [List.lookup_cons, List.lookup_nil] at e
      cases hy : y == ("__class__" : Str) with
      | true => rw [hy] at e; cases e; exact ⟨by simpa using hy, rfl⟩
      | false => rw [hy] at e; cases e
    have b1 := e0.bs cc _ (e0.mod.kin _ _ hcell)
    refine ⟨rfl, fun y c e => ?_, fun x y c e1 e2 => ?_, fun i y e => ?_⟩
    · obtain ⟨rfl, rfl⟩ := one y c e
      exact ⟨b1.2, some (.ref D), ⟨_, b1.1, rfl⟩⟩
    · rw [(one x c e1).1, (one y c e2).1]
    · cases i with
      | zero =>
        cases e
        refine ⟨cc, by rw [hc]; rfl, fun v e => ?_⟩
        cases e
        exact ⟨.ref D, rfl, ⟨_, b1.1, rfl⟩⟩
      | succ i => cases i <;> cases e
  refine codeAny_call_function hr.depth (KX _ _ lk) rfl (by rw [T.fds]; exact S.co) (by rw [T.fds]; exact S.gen) T.fdb (by rw [T.fdc, T.fdq]; exact PySem.W.codeRec_of KX T.code) (hb _ _ _ _ ?_)
  refine wpAny_newFunctionEnv (by rw [T.fds]; exact S.nocell) (fun ⟨n, _⟩ hy => by rw [T.fds]; exact S.par n (List.of_mem_zip hy).1) (fun h₁ hns hsb => ⟨lim.fresh _ hsb, ?_⟩) (by rw [T.fds]; exact S.kind)
  show codeAny (model P w) A (.func F.body (callEnv fd s.heap.objs.size f)) R _
  rw [T.env]
  have kp : ∀ b o, s.heap.get? b = some o → h₁.get? b = some o := fun b o e => hsb.extBut b o (Nat.ne_of_lt (Heap.lt_size e)) (Heap.get?_push_of_some _ e)
  exact ks_codeAny_funcAt (h _ (inv_startN S hr.hd e0 hl r C hns kp))
end
end Mill

set_option Elab.async false
set_option linter.all false
set_option maxRecDepth 100000
set_option maxHeartbeats 4000000
/-! Mill18: __init__ of an own exception's class, and of its own base. -/
namespace Mill
open PySem PySem.Spec PyProof.Rows L2 NdefX
abbrev CXn : CXT := fun _ _ _ _ _ _ => False
theorem sup_ev {o : Expr} {name : Str} {apos pos : Pos} {args : List Expr} {env : Env} (hform : methodCallForm (args.length + ([] : List Keyword).length) (backTo pos (starEach args env)) (backToKw pos (keywordEach [] env)) = true) (hline : (apos.endLine == pos.line) = true) :
    ∃ pl : Sem Bool, eval (.Call (.Attribute o name apos) args [] pos) env = (do
      let ov ← attributeBase o name env (eval o env)
      standAt apos.atName
      let (f, first) ← holding [ov] (getMethod ov name pl)
      callWith pos f first (backTo pos (starEach args env)) []) := by
  have hpos : methodCallPos true o env apos pos = pure pos := by unfold methodCallPos; simp [hline]
  rw [arm_eval_Call]
  unfold methodCall
  rw [hform, hpos]
  simp only [pure_bind]
  exact ⟨_, rfl⟩
/-- the base's __init__(self, what, word) -/
def spR (C : Addr) : Sp := fun vs H Q _ => ∃ (e : Addr) (y z : V), vs = [.ref e, y, z] ∧ H e = some (exo e C none) ∧
  ∀ dd, H dd = none → dd ≠ e → Q .non (upd (upd (upd H dd (exd dd [("what", y)])) e (exo e C (some dd))) dd (exd dd [("word", z), ("what", y)]))
/-- a class's __init__(self, what) -/
def spL (C : Addr) (n : Str) : Sp := fun vs H Q E => ∃ (e : Addr) (y : V), vs = [.ref e, y] ∧ spR C [.ref e, y, .str n] H Q E
section
variable {P : Program} {w : World} {K : PySem.W.Frag} {mg : Str → Option Value} {base : Heap} {F : NF} {f cc D C fR : Addr} {fd fdR : FuncData} {psR : List Str} {k j : Nat} {n : Str} {p0 p1 apos q1 q2 cpos epos : Pos}
theorem leaf_ok (T : SupC P K mg f F fd cc D "self") (S : NScope ["self", "what", "__class__"] ["self", "what"] ["__class__"] F.scope)
    (hbody : F.body = [.Expr (.Call (.Attribute (.Call (.Name "super" p0) [] [] p1) "__init__" apos) [.Name "what" q1, .Constant (.str n) j q2] [] cpos) epos])
    (FR : FnOk P w K mg base CXn k fR fdR psR (spR C)) (hbR : Binds K fdR psR []) (hsub : PySem.W.mroIn K C (.ref D) = some true) (hm : PySem.W.ks_superIn K C D "__init__" = some (some (.ref fR))) (hty : PySem.W.typeIn K (.ref fR) = some (.type "function")) (hfn : PySem.W.fnIn K fR = true) (hline : (apos.endLine == cpos.line) = true) :
    FnOk P w K mg base CXn (k + 1) f fd ["self", "what"] (spL C n) := by
  refine ⟨fun vs H Q E ⟨e, y, ev, _⟩ => by rw [ev]; rfl, fun A outer s H args us vs Q E hr e0 hb r hsp => ?_⟩
  obtain ⟨e, y, rfl, hsR⟩ := hsp
  refine sup_enter (CX := CXn) (x0 := "self") (E := E) T S hr e0 hb r rfl fun s1 I => ?_
  rw [hbody]
  obtain ⟨e', y', z', ev, he, hfin⟩ := id hsR
  cases ev
  obtain ⟨pl, hev⟩ := sup_ev (o := .Call (.Name "super" p0) [] [] p1) (name := "__init__") (args := [.Name "what" q1, .Constant (.str n) j q2]) (env := envF F f s.heap.objs.size) (pos := cpos) (apos := apos) rfl hline
  refine ks_wpAt_execs_cons (ks_wpAt_Expr_any (ks_wpAt_MethodCall (pl := pl) (sup_attr T I he rfl rfl (by decide) hsub fun so h' I2 hso => ?_) hev) I.quiet)
  have X : K.In h' := I2.kIn
  cases hc : PySem.W.clsIn K C with
  | none => unfold PySem.W.ks_superIn at hm; rw [hc] at hm; cases hm
  | some cd =>
    unfold PySem.W.ks_superIn at hm
    rw [hc] at hm
    obtain ⟨of, hof, hofc⟩ : ∃ of, h'.get? fR = some of ∧ of.cls = .type "function" := by
      have ht' : (K.lookup fR).map (·.cls) = some (.type "function") := hty
      cases z : K.lookup fR with
      | none => rw [z] at ht'; cases ht'
      | some of => rw [z] at ht'; exact ⟨of, X _ _ z, Option.some.inj ht'⟩
    have hne : e ≠ C := fun z => by
      subst z
      unfold PySem.W.clsIn at hc
      split at hc
      · rename_i c d cd' sl ho
        have := (e0.bs _ _ (e0.mod.kin _ _ ho)).2
        rw [he] at this
        cases this
      · cases hc
    refine ks_wpAny_getMethod_super hso (PySem.W.looks_opaque X T.stat) (l₀ := cd.mro) (fun A Q E s k q => wpAny_bind ((PySem.W.looks_clsIn X hc) A _ E s k (wpAny_pure q))) rfl X hm hof hofc hne (by decide) ?_
    have I2' : Inv (ncx CXn P w K mg base ["self", "what", "__class__"] F f A outer s H E) [] (startF ["self", "what", "__class__"] [.ref e, y] [some (.ref D)]) H ⟨h', s1.gens, s1.drawn, s1.toks, s1.os⟩ := I2
    have I3 := ClX.met_new (g := fR) (C := e) I2'
    have hb0 : (ncx CXn P w K mg base ["self", "what", "__class__"] F f A outer s H E).base.get? h'.objs.size = none := ClX.base_none I2' (Nat.le_refl _)
    have pa : PA (ncx CXn P w K mg base ["self", "what", "__class__"] F f A outer s H E) [.Name "what" q1, .Constant (.str n) j q2] (tCons (tVar 1) (tCons (tC (.str n)) tNil)) :=
      pa_cons (pe_var (i := 1) rfl (.inl (S.par "what" (by simp))) (by decide) (by decide)) (pa_cons pe_str pa_nil rfl) rfl
    refine ClX.callwith_cm I3 hb0 hfn (thn (pa.run cpos _ _ _ _ (fun vs H1 => vs = [y, .str n] ∧ H1 = H) I3 ⟨y, rfl, rfl, rfl⟩) fun us2 s3 ⟨vs2, H3, I4, r4, e1, e2⟩ => ?_) rfl rfl
    subst e1
    subst e2
    refine ⟨⟨ClX.pin_at I4, I4.kIn⟩, ?_⟩
    have r5 : Vals (V.ref e :: [y, V.str n]) (Value.ref e :: us2) := .cons rfl r4
    have hl5 : (Value.ref e :: us2).length = psR.length := by rw [← r5.length]; exact FR.len _ _ _ _ hsR
    refine wpAny_call (PySem.W.method_call (ClX.pin_at I4) (codeAny_mono (FR.run _ _ s3 H3 ⟨Value.ref e :: us2, []⟩ (Value.ref e :: us2) _ (fun _ H' => Q .non H') (fun _ _ _ => False) (hr.deeper _) I4.env0 (by
      have := hbR s3 (Value.ref e :: us2) I4.kIn (by rw [List.append_nil]; exact hl5)
      rw [List.append_nil] at this
      exact this) r5 ⟨e, y, .str n, rfl, he, hfin⟩) fun r' s' hq => ?_))
    cases r' with
    | error er => exact hq.elim
    | ok fl =>
      cases fl with
      | ret u =>
        obtain ⟨v, H6, I6, rv, q6⟩ := I4.after hq
        exact wpAt_of_wpAny (wpAny_execs_nil ⟨.non, H6, I6.os, I6.bare, I6.base, I6.hok, rfl, q6⟩)
      | next => exact hq.elim
      | brk => exact hq.elim
      | cont => exact hq.elim
theorem refused_ok {a1 a2 a3 a4 b1 b2 b3 b4 : Pos} (T : SupC P K mg f F fd cc D "self") (S : NScope ["self", "what", "word", "__class__"] ["self", "what", "word"] ["__class__"] F.scope)
    (hbody : F.body = [.Expr (.Call (.Attribute (.Call (.Name "super" p0) [] [] p1) "__init__" apos) [.Name "what" q1] [] cpos) epos, .Assign [.Attribute (.Name "self" a1) "what" a2] (.Name "what" a3) a4, .Assign [.Attribute (.Name "self" b1) "word" b2] (.Name "word" b3) b4])
    (T2 : OexC K C) (hsub : PySem.W.mroIn K C (.ref D) = some true) (hm : PySem.W.ks_superIn K C D "__init__" = some (some (.builtin "ValueError.__init__"))) (hB : PySem.W.subIn K (.ref C) (.type "ValueError") = some true) (hn1 : PySem.W.findIn K (.ref C) "what" = some none) (hn2 : PySem.W.findIn K (.ref C) "word" = some none)
    (hline : (apos.endLine == cpos.line) = true) : FnOk P w K mg base CXn (k + 1) f fd ["self", "what", "word"] (spR C) := by
  refine ⟨fun vs H Q E ⟨e, y, z, ev, _⟩ => by rw [ev]; rfl, fun A outer s H args us vs Q E hr e0 hb r hsp => ?_⟩
  obtain ⟨e, y, z, rfl, he, hfin⟩ := hsp
  refine sup_enter (CX := CXn) (x0 := "self") (E := E) T S hr e0 hb r rfl fun s1 I => ?_
  rw [hbody]
  obtain ⟨pl, hev⟩ := sup_ev (o := .Call (.Name "super" p0) [] [] p1) (name := "__init__") (args := [.Name "what" q1]) (env := envF F f s.heap.objs.size) (pos := cpos) (apos := apos) rfl hline
  refine ks_wpAt_execs_cons (ks_wpAt_Expr_any (ks_wpAt_MethodCall (pl := pl) (sup_attr T I he rfl rfl (by decide) hsub fun so h' I2 hso => ?_) hev) I.quiet)
  have X : K.In h' := I2.kIn
  obtain ⟨nm, q, Nn, bs, bm, sn, sub, ab, col, dd0, k0, k1, k2, k3, k5, hC, hbm⟩ := T2.cls
  cases hc : PySem.W.clsIn K C with
  | none => unfold PySem.W.ks_superIn at hm; rw [hc] at hm; cases hm
  | some cd =>
    unfold PySem.W.ks_superIn at hm
    rw [hc] at hm
    have hne : e ≠ C := fun z => by
      subst z
      have := (e0.bs _ _ (e0.mod.kin _ _ hC)).2
      rw [he] at this
      cases this
    have I2' : Inv (ncx CXn P w K mg base ["self", "what", "word", "__class__"] F f A outer s H E) [] (startF ["self", "what", "word", "__class__"] [.ref e, y, z] [some (.ref D)]) H ⟨h', s1.gens, s1.drawn, s1.toks, s1.os⟩ := I2
    obtain ⟨t1, ho⟩ := exo_at I2'.hok he
    have LT : PySem.W.Looks (model P w) h' (typeOf (.ref e)) (.ref C) := fun A Q E s k q => wpAny_typeOf_ref (k _ _ ho) q
    have hI : PySem.W.Looks (model P w) h' (isInstance (.ref e) (.type "ValueError")) true := LT.andThen (PySem.W.looks_subIn X hB)
    refine PySem.W.kxs_getMethod PySem.W.kxs_ValueError hso (PySem.W.looks_opaque X T.stat) (l₀ := cd.mro) (fun A Q E s k q => wpAny_bind ((PySem.W.looks_clsIn X hc) A _ E s k (wpAny_pure q))) rfl X hm hI hne (by decide) ?_
    have I3 : Inv (ncx CXn P w K mg base ["self", "what", "word", "__class__"] F f A outer s H E) [(h'.objs.size, PySem.W.kxs_mw "ValueError.__init__" e)] (startF ["self", "what", "word", "__class__"] [.ref e, y, z] [some (.ref D)]) H ⟨h'.push (PySem.W.kxs_mw "ValueError.__init__" e), s1.gens, s1.drawn, s1.toks + 1, s1.os⟩ :=
      ClX.pin_new (s := ⟨h', s1.gens, s1.drawn, s1.toks, s1.os⟩) (t' := s1.toks + 1) I2' (fun _ _ z => Heap.get?_push_of_some _ z) (Nat.le_refl _) (Heap.get?_push_size h' rfl) (fun v z => nomatch z)
    have pa : PA (ncx CXn P w K mg base ["self", "what", "word", "__class__"] F f A outer s H E) [.Name "what" q1] (tCons (tVar 1) tNil) :=
      pa_cons (pe_var (i := 1) rfl (.inl (S.par "what" (by simp))) (by decide) (by decide)) pa_nil rfl
    refine PySem.W.kxs_callWith (i := "ValueError.__init__") (x := e) rfl (PySem.Calls.evalArgs_plain (thn (pa.run cpos _ _ _ _ (fun vs H1 => vs = [y] ∧ H1 = H) I3 ⟨y, rfl, rfl, rfl⟩) fun us2 s3 ⟨vs2, H3, I4, r4, e1, e2⟩ => ?_))
    subst e1
    subst e2
    have hu := ClX.pin_at I4
    refine ⟨hu, ?_⟩
    obtain ⟨t2, ho2⟩ := exo_at I4.hok he
    have hlen : us2.length ≤ sizeLine := by
      rw [← Paired.length r4, sizeLine_eq]
      show 1 ≤ 16777216
      omega
    obtain ⟨hp3, g3, d3, tk3, os3⟩ := s3
    refine wpAny_call (codeAny_of_tree ?_)
    show wpAny _ (A.deeper (envF F f s.heap.objs.size)).in1 (callAny (.ref h'.objs.size) ⟨us2, []⟩) _ _ _
    simp only [callAny]
    refine wpAny_bind (wpAny_load hu ?_)
    simp only [PySem.W.kxs_mw, show (Value.type "method-wrapper" == Value.type "method" || Value.type "method-wrapper" == Value.type "builtin_function_or_method" || Value.type "method-wrapper" == Value.type "method-wrapper") = true by decide, if_true]
    refine PySem.W.KFB.if_so (by decide) ?_
    refine wpAny_bind (PySem.W.check_bound_init PySem.F.excBase_ValueError.toExcCallFacts (I4.kIn _ _ hC) ho2 rfl ?_)
    refine wpAny_bind (wpAny_pure (wpAny_pure ?_))
    refine ⟨plainId_quiet PySem.F.excBase_ValueError.init.plain _, codeAny_builtin PySem.F.excBase_ValueError.initEntry ?_⟩
    refine PySem.W.exc_init_tree (cls := .ref C) (t0 := t2) (dv := none) (c2 := .none) (c3 := .none) (b4 := .bool false) ho2 hlen fun h4 k4 e4 _ => ?_
    have J := I4.write (t' := tk3) (x := e) (e := e) (o := exo e C none) (by rw [he]; exact True.intro) (.inl rfl) k4 ⟨_, e4⟩ (exo_ok e4)
    have eu : upd H3 e (exo e C none) = H3 := by
      funext b
      by_cases hb : b = e
      · rw [hb, upd_same, he]
      · rw [upd_ne hb]
    rw [eu] at J
    have px : ∀ (i : Nat) (x : Str) (p : Pos), (["self", "what", "word", "__class__"] : List Str)[i]? = some x → x ∈ (["self", "what", "word"] : List Str) → okName x = true → PE (ncx CXn P w K mg base ["self", "what", "word", "__class__"] F f A outer s H3 E) (.Name x p) (tVar i) :=
      fun i x p h1 h2 h3 => pe_var (i := i) h1 (.inl (S.par x h2)) (okName_ok h3).1 (okName_ok h3).2
    have st := pss_cons (ps_ost (pos := a4) (p' := a2) (f := "what") (px 0 "self" a1 rfl (by simp) (by decide +kernel)) (px 1 "what" a3 rfl (by simp) (by decide +kernel)) rfl)
      (pss_cons (ps_ost (pos := b4) (p' := b2) (f := "word") (px 0 "self" b1 rfl (by simp) (by decide +kernel)) (px 2 "word" b3 rfl (by simp) (by decide +kernel)) rfl) pss_nil)
    refine wpAt_of_wpAny (wpAny_mono (st.run _ _ _ _ { nx := fun _ H' => Q .non H', rt := Q } J ?_) (fun fl s' hs => ?_) fun _ _ z => z)
    · refine ⟨y, rfl, .ref e, rfl, e, C, rfl, T2, hn1, .inl ⟨he, fun dd hd hde => ?_⟩⟩
      exact ⟨z, rfl, .ref e, rfl, e, C, rfl, T2, hn2, .inr ⟨dd, [("what", y)], upd_same, by rw [upd_ne hde, upd_same], by simp, hfin dd hd hde⟩⟩
    · cases fl with
      | next =>
        obtain ⟨σ6, H6, I6, q6⟩ := hs
        exact ⟨.non, H6, I6.os, I6.bare, I6.base, I6.hok, rfl, q6⟩
      | ret u =>
        obtain ⟨v, σ6, H6, I6, rv, q6⟩ := hs
        exact ⟨v, H6, I6.os, I6.bare, I6.base, I6.hok, rv, q6⟩
      | brk =>
        obtain ⟨_, _, _, q6⟩ := hs
        exact q6.elim
      | cont =>
        obtain ⟨_, _, _, q6⟩ := hs
        exact q6.elim
end
end Mill

set_option Elab.async false
set_option linter.all false
set_option maxRecDepth 100000
set_option maxHeartbeats 4000000
/-! Mill19: an own exception made. -/
namespace Mill
open PySem PySem.Spec PyProof.Rows L2 NdefX
theorem del_upd {H : Hp} {a dd : Addr} {o1 o2 o3 o4 : HO} {o5 : HO} (ha : H a = none) (hne : dd ≠ a) : upd (del (upd (upd (upd (upd H a o1) dd o2) a o3) dd o4) a) dd o5 = upd H dd o5 := by
  funext b
  by_cases hb : b = dd
  · rw [hb, upd_same, upd_same]
  · rw [upd_ne hb, upd_ne hb]
    by_cases hba : b = a
    · rw [hba, del_same, ha]
    · rw [del_ne hba, upd_ne hb, upd_ne hba, upd_ne hb, upd_ne hba]
/-- C(e, ..) where C's own __init__ keeps sp: the new object's context is None -/
theorem pmk_oexN {X : Cx} {x : Str} {C fI : Addr} {k : Nat} {fd : FuncData} {ps : List Str} {sp : Sp} {e : Expr} {es : List Expr} {ta : TA} {p pos : Pos} (T : OexC X.K C) (iC : PySem.W.findIn X.K (.ref C) "__init__" = some (some (.ref fI))) (tI : PySem.W.typeIn X.K (.ref fI) = some (.type "function"))
    (F1 : FnOk X.prog X.w X.K X.mg X.base CXn k fI fd ps sp) (hr : Room (k + 1) X.A) (hb : Binds X.K fd ps []) (hg : Gl X x) (hm : X.mg x = some (.ref C)) (ha : PA X (e :: es) ta)
    (hdb : (x == ("__debug__" : Str)) = false) (he : starEach (e :: es) X.env = (false, eval e X.env) :: starEach es X.env) (hpl : (backTo pos (starEach es X.env)).any (·.1) = false) :
    L2N.PMk X (.Call (.Name x p) (e :: es) [] pos) (tMkO C sp [] ta) := by
  intro pins s σ H Q I h
  obtain ⟨nm, q, N, bs, bm, sn, sub, ab, col, dd, k0, k1, k2, k3, k5, hC, hbm⟩ := T.cls
  refine wpAny_Call_Name_kw (ld_glob I hg hm ?_ hdb)
  refine PySem.W.callWith_K (h₀ := X.base) I.ok.mod.kin T.kC (thn (ha.run pos pins s σ H _ I h) fun us s1 ⟨vs, H1, I1, r1, hz, q1⟩ => ⟨I1.kIn, ?_⟩) he hpl
  show wpAny _ _ (call (.ref C) us) _ _ _
  obtain ⟨hp, g, dr, tk, os⟩ := s1
  have hsz : hp.objs.size ≤ hp.objs.size + 1 := Nat.le_succ _
  have hq := q1 (hp.objs.size + 1) (I1.hok.fresh hsz)
  rw [List.append_nil] at hq
  have kk : ∀ b o, hp.get? b = some o → ((hp.push (PySem.W.kdv_tup us)).push (PySem.HandSPX.excO C hp.objs.size)).get? b = some o := fun b o e => Heap.get?_push_of_some _ (Heap.get?_push_of_some _ e)
  have hget : ((hp.push (PySem.W.kdv_tup us)).push (PySem.HandSPX.excO C hp.objs.size)).get? (hp.objs.size + 1) = some (PySem.HandSPX.excO C hp.objs.size) := by heap_get
  have I2 : Inv X pins σ (upd H1 (hp.objs.size + 1) (exo (hp.objs.size + 1) C none)) ⟨(hp.push (PySem.W.kdv_tup us)).push (PySem.HandSPX.excO C hp.objs.size), g, dr, tk, os⟩ :=
    I1.laid (t' := tk) (a := hp.objs.size + 1) (o := exo (hp.objs.size + 1) C none) (h' := (hp.push (PySem.W.kdv_tup us)).push (PySem.HandSPX.excO C hp.objs.size)) kk hsz (exo_ok hget)
  have r2 : Vals (V.ref (hp.objs.size + 1) :: vs) (Value.ref (hp.objs.size + 1) :: us) := .cons rfl r1
  have hl : ((Value.ref (hp.objs.size + 1) :: us) ++ []).length = ps.length := by
    have e := r2.length
    rw [F1.len _ _ _ _ hq] at e
    rw [List.append_nil]
    exact e.symm
  have hus : us.length ≤ sizeLine := by
    rw [← Paired.length r1, sizeLine_eq]
    omega
  refine wpAny_call (PySem.HandSPX.call_own F.excBase_ValueError (fun Y => PySem.HandSPX.refsVE_contains Y bm hbm) (I1.kIn _ _ hC) (PySem.W.looks_findIn I1.kIn iC) (fun self => PySem.W.bind_fn I1.kIn self tI) hus
    (codeAny_mono (F1.run _ X.stack _ _ ⟨Value.ref (hp.objs.size + 1) :: us, []⟩ (Value.ref (hp.objs.size + 1) :: us) _ _ (fun _ _ _ => False) (hr.make C us []) (I2.env0.make C us []) (by
      have z := hb _ (Value.ref (hp.objs.size + 1) :: us) I2.kIn hl
      rw [List.append_nil] at z
      exact z) r2 hq) fun r s' hq' => ?_))
  cases r with
  | error er => exact hq'.elim
  | ok fl =>
    cases fl with
    | ret u =>
      obtain ⟨v, H2, os2, bare2, un2, hok2, rv, ev, d, fs, ea, ed, hd1, q2⟩ := hq'
      subst ev
      obtain ⟨h2, g2, d2, t2, os'⟩ := s'
      obtain ⟨t0, G, J, kG, ge, hoe, na⟩ := mk_end0 (d2 := d2) (t2 := t2) I1 hsz kk un2 hok2 os2 bare2 ea ed hd1
      exact ⟨rv, hp.objs.size + 1, _, _, ⟨G, g2, d2, t2, os'⟩, _, .ref C, some d, rfl, J, kG, ge, hoe, ⟨rfl, rfl, fun vs z => by cases z; rfl⟩, rfl, rfl, na, rfl, bare2, raises_own T.exC T.tyC, q2⟩
    | next => exact False.elim hq'
    | brk => exact False.elim hq'
    | cont => exact False.elim hq'
theorem mk_ok {W : Wd} {X : Cx} {c n : Str} {C fI : Addr} {k : Nat} {fd : FuncData} (T2 : OexC X.K C) (iC : PySem.W.findIn X.K (.ref C) "__init__" = some (some (.ref fI))) (tI : PySem.W.typeIn X.K (.ref fI) = some (.type "function"))
    (F1 : FnOk X.prog X.w X.K X.mg X.base CXn k fI fd ["self", "what"] (spL C n)) (hr : Room (k + 1) X.A) (hb : Binds X.K fd ["self", "what"] []) (hm : X.mg c = some (.ref C)) (hcA : W.cA c = C) : MkOk W X c := by
  intro Cf xw a x p q hg hn ha hs
  intro pins s σ H Q I h
  refine pmk_oexN T2 iC tI F1 hr hb hg hm (pa_cons ha pa_nil hs) (okName_ok hn).1 hs rfl pins s σ H Q I ?_
  obtain ⟨m, h, ρ, rh, s', p⟩ := h
  refine ⟨m, h, ρ, rh, s', post_mono p fun v H1 hh => ⟨by simp, fun a ha => ⟨a, v, rfl, a, v, .str n, rfl, upd_same, fun dd hd hne => ⟨rfl, dd, [("word", .str n), ("what", v)], ?_, upd_same, ?_, ?_⟩⟩⟩⟩
  · rw [upd_ne hne.symm, upd_same]
  · rw [upd_ne hne] at hd
    exact hd
  · rw [upd_ne hne] at hd
    rw [del_upd ha hne, ← hcA]
    exact hh dd _ hd (by rfl)
end Mill

set_option Elab.async false
set_option linter.all false
set_option maxRecDepth 100000
set_option maxHeartbeats 4000000
/-! Mill20: isinstance of a caught exception that has a dict. -/
namespace PySem.W
open PySem PySem.Spec PySem.Calls PyProof.Rows
section
variable {prog : Program} {w : World} {A : Around} {E : Value → Shared → Prop} {s : Shared} {K : Frag} {x D : Addr} {ox : Obj} {od : Option Obj}
theorem mill_find {C : Addr} {name : Str} {a g : Value} (hc : (clsIn K C).isSome = true) (ha : findIn K (.ref C) name = some (some a)) (hg : specialIn K a "__get__" = some (some g)) (ht : takesIn K a = some true) : findObj K C od name = some (.bind g a) := by
  obtain ⟨cd, hc⟩ := Option.isSome_iff_exists.mp hc
  unfold findObj
  rw [hc, Option.bind_some, ha, Option.bind_some]
  simp [hg, ht]
theorem mill_classE {Q : Option Value → Shared → Prop} (hga : findIn K (.ref D) "__getattribute__" = some (some (.builtin "BaseException.__getattribute__"))) (hgt : findIn K (.ref D) "__getattr__" = some none) (hsub : subIn K (.ref D) (.type "BaseException") = some true)
    (hdct : hasDictIn K D = true) (ha : findIn K (.ref D) "__class__" = some (some (.builtin "object.__class__")))
    (hn : specialIn K (.builtin "object.__class__") "__get__" = some (some (.builtin "getset_descriptor.__get__"))) (htk : takesIn K (.builtin "object.__class__") = some true) (hm : mroIn K D (.type "object") = some true)
    (X : K.In s.heap) (I : InstAt s.heap x ox D od) (h : Q (some (.ref D)) { s with toks := s.toks + 1 }) : wpAny (model prog w) A (getAttr? (.ref x) "__class__") Q E s := by
  have hf : findObj K D od "__class__" = some (.bind (.builtin "getset_descriptor.__get__") (.builtin "object.__class__")) := mill_find (by obtain ⟨cd, hc, _⟩ := any_some hdct; rw [hc]; rfl) ha hn htk
  obtain ⟨hp, g, d, t, os⟩ := s
  have L0 := I.type (M := model prog w)
  have L1 := looks_findIn (M := model prog w) X hga
  have L2 := looks_findIn (M := model prog w) X hgt
  have L3 := looks_find (M := model prog w) X I hf
  have sub : Looks (model prog w) hp (isInstance (.ref x) (.type "BaseException")) true := L0.andThen (looks_subIn X hsub)
  have hx0 : (false && onTheHeap (Value.builtin "BaseException.__getattribute__")) = false := rfl
  have hx2 : (Value.builtin "BaseException.__getattribute__" == Value.builtin "object.__getattribute__") = false := by decide +kernel
  have hx1 : (onTheHeap (Value.ref D) && Value.builtin "BaseException.__getattribute__" == Value.builtin "object.__getattribute__") = false := by rw [hx2]; rfl
  unfold getAttr? getAttrBy? getAttrBy
  refine wpAny_bind (wpAny_mkText (wpAny_bind (wpAny_attempt (wpAny_holding (wpAny_bind (L0.at (wpAny_bind (L1.at ?_))))))))
  show wpAny _ _ (if (onTheHeap (Value.ref D) && Value.builtin "BaseException.__getattribute__" == Value.builtin "object.__getattribute__") = true then _ else _) _ _ _
  rw [hx1, if_neg Bool.false_ne_true]
  unfold getAttrByItsOwn hookBefore
  refine wpAny_bind ?_
  rw [if_pos (show onTheHeap (Value.ref D) = true from rfl)]
  refine L2.at ?_
  refine wpAny_bind (wpAny_attempt (wpAny_holding ?_))
  unfold callGetattribute
  rw [hx0, if_neg Bool.false_ne_true]
  unfold boundAndCalled
  rw [PySem.F.excAttr_ValueError.ga.bind (.ref x)]
  refine wpAny_bind (wpAny_pure ?_)
  show wpAny _ _ (call (.builtin "BaseException.__getattribute__") [.ref x, .str "__class__" t]) _ _ _
  refine wpAny_call (codeAny_call_builtin PySem.F.excAttr_ValueError.ga.plain PySem.F.entry_bexc_ga ?_)
  refine @check_slot (model prog w) _ _ ⟨hp, g, d, t + 1, os⟩ "BaseException.__getattribute__" "BaseException" "__getattribute__" (.ref x) [.str "__class__" t] [] _ (by decide +kernel) (by decide +kernel) sub (PySem.F.args_bexc_ga (.ref x) (.str "__class__" t)) ?_
  unfold Builtin.«object.__getattribute__»
  refine wpAny_bind (wpAny_of_eq (a := ((Value.ref x : Value), [Value.str "__class__" t])) (by first | rfl | (simp only [slotArgs]; rfl)) ?_)
  refine wpAny_bind (wpAny_pure (wpAny_bind (L0.at (wpAny_bind (L3.at ?_)))))
  show wpAny _ _ (holding [Value.builtin "object.__class__"] (call (.builtin "getset_descriptor.__get__") [.builtin "object.__class__", .ref x, .ref D]) >>= ret) _ _ _
  refine wpAny_bind (wpAny_holding (wpAny_call (class_get (s := ⟨hp, g, d, t + 1, os⟩) (ox := ox) (od := od) X I hm ?_)))
  refine wpAny_pure ?_
  show wpAny _ _ (handedOut (.ref D)) _ _ _
  rw [handedOut_of (v := .ref D) rfl]
  first
    | exact wpAny_pure (wpAny_pure h)
    | exact wpAny_pure h
    | exact wpAny_pure (wpAny_bind (wpAny_pure (wpAny_pure h)))
theorem mill_kitx (hga : findIn K (.ref D) "__getattribute__" = some (some (.builtin "BaseException.__getattribute__"))) (hgt : findIn K (.ref D) "__getattr__" = some none) (hsub : subIn K (.ref D) (.type "BaseException") = some true) (hdct : hasDictIn K D = true) (ha : findIn K (.ref D) "__class__" = some (some (.builtin "object.__class__")))
    (hn : specialIn K (.builtin "object.__class__") "__get__" = some (some (.builtin "getset_descriptor.__get__"))) (htk : takesIn K (.builtin "object.__class__") = some true) (hm : mroIn K D (.type "object") = some true) :
    KitX K (.ref x) (.ref D) (fun h => ∃ od, InstAt h x ox D od) where
  ty := fun _ _ _ ⟨_, I⟩ => I.type
  it := fun _ _ X _ => by
    obtain ⟨cdD, hcD, _⟩ := any_some hdct
    unfold clsIn at hcD
    split at hcD
    · rename_i c' d' cd' sl' ho
      intro A' Q' E' s' k q
      unfold isType loadHead
      exact wpAny_bind (wpAny_loadPart (k _ _ (X _ _ ho)) (wpAny_pure q))
    · cases hcD
  ne := fun h tp dd its n sl X htp => by
    obtain ⟨cdD, hcD, _⟩ := any_some hdct
    refine Bool.eq_false_iff.mpr fun q => ?_
    have e : D = tp := Value.ref.inj (beq_iff_eq.mp q)
    subst e
    unfold clsIn at hcD
    split at hcD
    · rename_i c' d' cd' sl' ho
      have z := (X _ _ ho).symm.trans htp
      cases z
    · cases hcD
  ca := fun X ⟨_, I⟩ k => mill_classE hga hgt hsub hdct ha hn htk hm X I k
end
end PySem.W
namespace Mill
open PySem PySem.Spec PyProof.Rows L2
/-- isinstance(e, c), e the exception that the suite holds: a and its dict -/
def rIsD (K : PySem.W.Frag) (D a dd : Addr) : List V → Hp → VK → Prop := fun xs H Q => ∃ (c : V) (cv : Value) (b : Bool) (fs : List (Str × V)), xs = [.ref a, c] ∧ H dd = some (.xd fs) ∧ (∀ u, RelV c u → u = cv) ∧ PySem.W.kitOne K (.ref D) cv = some b ∧ Q (.bl b) H
theorem call_isD {X : Cx} {a D dd : Addr} {oe : Obj} (C : ExcC X.K D) (hp : (a, oe) ∈ X.pn) (hz : Zc (.ref D) (some dd) oe) (hf : ∃ vs, oe.data = .fields vs) : CallR X (.builtin "isinstance") (rIsD X.K D a dd) := by
  intro pins s σ H xs us Q I r h
  obtain ⟨c, cv, b, fs, rfl, hdd, hcv, e, q⟩ := h
  cases r with
  | cons rx rr =>
    cases rr with
    | cons rt rr =>
      cases rr
      cases rx
      have ec := hcv _ rt
      subst ec
      obtain ⟨hget, _⟩ := I.pin (a, oe) (List.mem_append_left _ hp)
      obtain ⟨vs, hv⟩ := hf
      have hx : ObjOk X.prog X.w H s.heap dd (.xd fs) := I.hok dd _ hdd
      obtain ⟨mA, ⟨od, es, ep, hod, _⟩, _⟩ := hx
      have J : PySem.W.InstAt s.heap a oe D (some od) := by
        obtain ⟨oc, od', oda, osl⟩ := oe
        obtain ⟨h1, h2⟩ := hz
        dsimp only at h1 h2 hv
        subst h1 h2 hv
        exact ⟨hget, rfl, rfl, hod⟩
      exact PySem.W.kia_one (PySem.W.mill_kitx (ox := oe) C.hg C.hk C.hs C.hd C.ha C.hn C.ht C.hm) I.kIn ⟨_, J⟩ e (fun z => nomatch z) fun tk => ⟨.bl b, H, I.kept (t' := tk) fun _ _ z => z, rfl, q⟩
end Mill

set_option Elab.async false
set_option linter.all false
set_option maxRecDepth 100000
set_option maxHeartbeats 4000000
/-! Mill21: the words of a caught exception's classes. -/
namespace Mill
open PySem PySem.Spec PyProof.Rows L2 L2H
abbrev SameH (H H' : Hp) : Prop := ∀ b o, H b = some o → H' b = some o
theorem SameH.refl {H : Hp} : SameH H H := fun _ _ e => e
theorem SameH.trans {H H1 H2 : Hp} (a : SameH H H1) (b : SameH H1 H2) : SameH H H2 := fun c o h => b c o (a c o h)
theorem SameH.new {H : Hp} {a : Addr} {o : HO} (h : H a = none) : SameH H (upd H a o) := fun b u e => by rw [upd_ne (ne_of_none e h)]; exact e
/-- pairs of a word and a bool -/
inductive PairsAt (H : Hp) : List V → List (Str × Bool) → Prop
  | nil : PairsAt H [] []
  | cons {t : Addr} {n : Str} {b : Bool} {vs : List V} {ps : List (Str × Bool)} : H t = some (.tup [.str n, .bl b]) → PairsAt H vs ps → PairsAt H (.ref t :: vs) ((n, b) :: ps)
theorem PairsAt.mono {H H' : Hp} (s : SameH H H') : ∀ {vs : List V} {ps : List (Str × Bool)}, PairsAt H vs ps → PairsAt H' vs ps
  | _, _, .nil => .nil
  | _, _, .cons h r => .cons (s _ _ h) (PairsAt.mono s r)
theorem PairsAt.length {H : Hp} {vs : List V} {ps : List (Str × Bool)} (h : PairsAt H vs ps) : vs.length = ps.length := by
  induction h with
  | nil => rfl
  | cons _ _ ih => simp [ih]
/-- ('C', isinstance(r, C)) -/
def clsOf (r : Str) (sc : Scope) : Expr → Option Str
  | .Tuple [.Constant (.str n) _ _, .Call (.Name f _) [.Name r' _, .Name n' _] [] _] _ _ => if f = "isinstance" ∧ r' = r ∧ n' = n ∧ okName n = true ∧ sc.names.lookup n = some .globalImplicit then some n else none
  | _ => none
def clsAll (r : Str) (sc : Scope) : List Expr → Option (List Str)
  | [] => some []
  | e :: es => match clsOf r sc e, clsAll r sc es with
    | some n, some ns => some (n :: ns)
    | _, _ => none
section
variable {X : Cx} {r : Str} {sc : Scope} {a D dd : Addr} {oe : Obj} {fs : List (Str × V)} {cA : Str → Addr} {c : Str}
def tPairs (a dd : Addr) (fs : List (Str × V)) (ps : List (Str × Bool)) : TA := fun σ H Q => σ[0]? = some (some (.ref a)) ∧ H dd = some (.xd fs) ∧ ∀ H' vs, SameH H H' → PairsAt H' vs ps → Q vs H'
theorem pa_classes (C : ExcC X.K D) (hp : (a, oe) ∈ X.pn) (hz : Zc (.ref D) (some dd) oe) (hf : ∃ vs, oe.data = .fields vs) (hsc : X.env.scope = sc) (h0 : X.N[0]? = some r) (hr : okName r = true) (hv : Vis sc r) (hi : sc.names.lookup ("isinstance" : Str) = some .globalImplicit) (hm : X.mg "isinstance" = none) :
    ∀ (es : List Expr) (ns : List Str), clsAll r sc es = some ns → (∀ n ∈ ns, X.mg n = some (.ref (cA n)) ∧ PySem.W.kitOne X.K (.ref D) (.ref (cA n)) = some (decide (n = c))) → PA X es (tPairs a dd fs (ns.map fun n => (n, decide (n = c))))
  | [], ns, h, _ => by
    cases h
    exact ⟨fun pos pins s σ H Q I ⟨_, _, q⟩ => pa_nil.run pos pins s σ H Q I (q H [] SameH.refl .nil)⟩
  | e :: es, ns, h, hk => by
    replace h : (match clsOf r sc e, clsAll r sc es with | some n, some ns => some (n :: ns) | _, _ => none) = some ns := h
    cases e1 : clsOf r sc e with
    | none => rw [e1] at h; cases h
    | some n =>
      cases e2 : clsAll r sc es with
      | none => rw [e1, e2] at h; cases h
      | some ms =>
        rw [e1, e2] at h
        cases h
        have ih := pa_classes C hp hz hf hsc h0 hr hv hi hm es ms e2 fun m hm => hk m (List.mem_cons_of_mem _ hm)
        obtain ⟨k1, k2⟩ := hk n List.mem_cons_self
        unfold clsOf at e1
        split at e1
        · rename_i n' j p1 f p2 r' p3 m' p4 p5 kk p6
          split at e1
          · rename_i hc
            cases e1
            obtain ⟨rfl, rfl, rfl, hn, hg⟩ := hc
            have pn : PE X (.Name m' p4) (tC (.ref (cA m'))) := ⟨fun pins s σ H Q I h => ld_glob I (show X.env.scope.names.lookup m' = _ by rw [hsc]; exact hg) k1 ⟨.ref (cA m'), H, I, rfl, h⟩ (okName_ok hn).1⟩
            have pi : PE X (.Call (.Name "isinstance" p2) [.Name r' p3, .Name m' p4] [] p5) (tCB (rIsD X.K D a dd) (tCons (tVar 0) (tCons (tC (.ref (cA m'))) tNil))) :=
              pe_callB (call_isD C hp hz hf) (show X.env.scope.names.lookup _ = _ by rw [hsc]; exact hi) hm (by decide +kernel) (pa_cons (pe_var (i := 0) h0 (by rw [hsc]; exact hv) (okName_ok hr).1 (okName_ok hr).2) (pa_cons pn pa_nil rfl) rfl) (by decide +kernel) (by decide +kernel) rfl rfl
            have pt := pe_tup (x1 := kk) (pos := p6) (pa_cons (pe_str (X := X) (x := m') (j := j) (pos := p1)) (pa_cons pi pa_nil rfl) rfl)
            refine ⟨fun pos pins s σ H Q I ⟨q1, q2, q3⟩ => (pa_cons pt ih rfl).run pos pins s σ H Q I ?_⟩
            refine ⟨.ref a, q1, ?_⟩
            refine ⟨.ref (cA m'), .ref (cA m'), _, fs, rfl, q2, fun u z => z, k2, ?_⟩
            refine ⟨by show 2 ≤ sizeLine; decide, fun t ht => ⟨q1, (SameH.new ht) _ _ q2, fun H' vs sm pa => q3 H' _ ((SameH.new ht).trans sm) (.cons (sm _ _ upd_same) pa)⟩⟩
          · cases e1
        · cases e1
/-- a def called while the exception at p is handled -/
theorem run_hotfn {CX : CXT} {P : Program} {w : World} {K : PySem.W.Frag} {mg : Str → Option Value} {base : Heap} {k : Nat} {f : Addr} {name qual : Str} {params : Arguments} {body : List Stmt} {scope : Scope} {dV kV doc pm cdv ct oc : Value} {an od : Option Addr}
    {osl : Array (Option Value)} {N ps : List Str} (lk : K.lookup f = some ⟨oc, od, .func (PySem.W.fnOf name qual params body scope dV kV doc pm an cdv ct), osl⟩) (hcd : PySem.W.codeIn K cdv qual = true) (S : FnScope N ps scope)
    {A : Around} {outer : List Env} {s : Shared} {H : Hp} {args : Args} {us : List Value} {vs : List V} {Q : VK} {E : XK} {p : Addr × Obj} (hr : RoomH (k + 1) A) (hpin : PinOk outer H s p) (e0 : Env0 P w K mg base A outer s H) (hb : BindsTo s (PySem.W.fnOf name qual params body scope dV kV doc pm an cdv ct) args (ps.zip us)) (r : Vals vs us) (hl : vs.length = ps.length)
    (hbody : ∃ t, PSs (cxH CX P w K mg base N qual scope f cdv A outer s H E p) body t ∧ t { nx := fun _ H' => Q .non H', rt := Q } (L2.start N vs) H) :
    codeAny (model P w) A (.call (.ref f) args) (CR CX outer P w H s Q E) s := by
  have KX : K.In s.heap := e0.mod.kin.keeps fun b o e => (e0.bs b o e).1
  have lim : s.heap.NoLimit := e0.mod.nolimit.keeps fun b o e => (e0.bs b o e).1
  have hkind : ∀ y ∈ ps.zip us, scope.names.lookup y.1 = some .local ∨ (scope.names.lookup y.1 = some .cell ∧ ((cellsFrom (s.heap.objs.size + 1) scope.names []).lookup y.1).isSome = true) := fun ⟨n, v⟩ hy => by
    rcases S.par n (List.of_mem_zip hy).1 with q | q
    · exact .inl q
    · exact .inr ⟨q, PySem.W.cellsFrom_some _ _ _ (.inl q)⟩
  refine codeAny_call_function hr.depth (KX _ _ lk) rfl S.co S.gen rfl (PySem.W.codeRec_of KX hcd) (hb _ _ _ _ ?_)
  refine wpAny_newFunctionEnv_cells S.kind hkind fun env he s1 x => ?_
  subst he
  refine ⟨lim.keeps x.toInCall.keep, codeAny_func ?_⟩
  obtain ⟨t, ht, hq⟩ := hbody
  have I : Inv (cxH CX P w K mg base N qual scope f cdv A outer s H E p) [] (L2.start N vs) H s1 := inv_startH S hpin e0 hl r x
  refine wpAny_mono (ht.run [] s1 (L2.start N vs) H _ I hq) (fun fl s' hs => ?_) fun e s' hs => hs
  have fin : ∀ {σ' : L2.St} {H' : Hp} {v : V} {u : Value}, Inv (cxH CX P w K mg base N qual scope f cdv A outer s H E p) [] σ' H' s' → RelV v u → Q v H' → CE outer P w H s Q u s' :=
    fun {σ' H' v u} J rv q => ⟨v, H', J.os, J.bare, J.base, J.hok, rv, q⟩
  cases fl with
  | ret u =>
    obtain ⟨v, σ', H', J, rv, q⟩ := hs
    exact fin J rv q
  | next =>
    obtain ⟨σ', H', J, q⟩ := hs
    exact fin (v := V.non) (u := Value.none) J rfl q
  | brk =>
    obtain ⟨_, _, _, q⟩ := hs
    exact False.elim q
  | cont =>
    obtain ⟨_, _, _, q⟩ := hs
    exact False.elim q
/-- what the def of the classes' words must be -/
structure ClsDef (X : Cx) (cA : Str → Addr) (ns : List Str) : Prop where
  ok : ∃ (g : Addr) (r : Str) (params : Arguments) (elts : List Expr) (lp rp : Pos) (sc : Scope) (dV kV doc pm cdv ct oc : Value) (an od : Option Addr) (osl : Array (Option Value)),
    X.mg "_law_classes" = some (.ref g) ∧ PySem.W.keepIn X.K (.ref g) = true ∧ X.K.lookup g = some ⟨oc, od, .func (PySem.W.fnOf "_law_classes" "_law_classes" params [.Return (some (.List elts lp)) rp] sc dV kV doc pm an cdv ct), osl⟩ ∧
    PySem.W.codeIn X.K cdv "_law_classes" = true ∧ FnScope [r] [r] sc ∧ L2.Binds X.K (PySem.W.fnOf "_law_classes" "_law_classes" params [.Return (some (.List elts lp)) rp] sc dV kV doc pm an cdv ct) [r] [] ∧
    okName r = true ∧ sc.names.lookup ("isinstance" : Str) = some .globalImplicit ∧ clsAll r sc elts = some ns ∧ elts.length ≤ 1000
  bi : X.mg "isinstance" = none
  mg : ∀ n ∈ ns, X.mg n = some (.ref (cA n))
theorem clsAll_length {r : Str} {sc : Scope} : ∀ {es : List Expr} {ns : List Str}, clsAll r sc es = some ns → ns.length = es.length
  | [], ns, h => by cases h; rfl
  | e :: es, ns, h => by
    replace h : (match clsOf r sc e, clsAll r sc es with | some n, some ns => some (n :: ns) | _, _ => none) = some ns := h
    cases e1 : clsOf r sc e with
    | none => rw [e1] at h; cases h
    | some n =>
      cases e2 : clsAll r sc es with
      | none => rw [e1, e2] at h; cases h
      | some ms => rw [e1, e2] at h; cases h; simp [clsAll_length e2]
def tClsCall (a dd : Addr) (fs : List (Str × V)) (ps : List (Str × Bool)) (t : TE) : TE := fun σ H Q => t σ H fun v H1 => [v] = [V.ref a] ∧ H1 dd = some (.xd fs) ∧ ∀ H' l vs, SameH H1 H' → H' l = some (.lst vs) → PairsAt H' vs ps → Q (.ref l) H'
theorem pe_classes {k : Nat} {ns : List Str} (G : ClsDef X cA ns) (C : ExcC X.K D) (hot : Hot1 X.A (a, oe)) (hp : (a, oe) ∈ X.pn) (hz : Zc (.ref D) (some dd) oe) (hf : ∃ vs, oe.data = .fields vs) (hr : RoomH (k + 1) X.A) (hk : ∀ n ∈ ns, PySem.W.kitOne X.K (.ref D) (.ref (cA n)) = some (decide (n = c)))
    {e : Expr} {te : TE} {p pos : Pos} (hg : Gl X "_law_classes") (he : PE X e te) (hs : starEach [e] X.env = [(false, eval e X.env)]) : PE X (.Call (.Name "_law_classes" p) [e] [] pos) (tClsCall a dd fs (ns.map fun n => (n, decide (n = c))) te) := by
  obtain ⟨g, r, params, elts, lp, rp, sc, dV, kV, doc, pm, cdv, ct, oc, an, od, osl, g1, g2, g3, g4, S, bd, g5, g6, g7, g8⟩ := G.ok
  refine ⟨fun pins s σ H Q I h => ?_⟩
  refine wpAny_Call_Name_kw (ld_glob I hg g1 ?_ (by decide +kernel))
  refine PySem.W.callWith_K (h₀ := X.base) I.ok.mod.kin g2 (thn ((pa_cons he pa_nil hs).run pos pins s σ H (fun vs H1 => vs = [V.ref a] ∧ H1 dd = some (.xd fs) ∧ ∀ H' l ws, SameH H1 H' → H' l = some (.lst ws) → PairsAt H' ws (ns.map fun n => (n, decide (n = c))) → Q (.ref l) H') I h) fun us s1 ⟨vs, H1, I1, rr, ev, hd, q⟩ => ⟨I1.kIn, ?_⟩) hs rfl
  subst ev
  have hl : us.length = 1 := by rw [← rr.length]; rfl
  have b := bd s1 us I1.kIn (by rw [List.append_nil]; exact hl)
  rw [List.append_nil] at b
  have P1 := I1.pin (a, oe) (List.mem_append_left _ hp)
  have hpin : PinOk X.stack H1 s1 (a, oe) := ⟨P1.1, P1.2.1, fun hm => (List.mem_cons.mp (I1.stkSub _ hm)).elim P1.2.2.1 P1.2.2.2.1, P1.2.2.2.2⟩
  refine wpAny_call (codeAny_mono (run_hotfn (CX := fun _ _ _ _ _ _ => False) (Q := Q) (E := fun _ _ _ => False) (p := (a, oe)) g3 g4 S hr hpin I1.env0 b rr rfl ?_) fun r' s' hq => ?_)
  · refine ⟨_, pss_one (ps_ret (pe_lst (pa_classes (X := cxH (fun _ _ _ _ _ _ => False) X.prog X.w X.K X.mg X.base [r] "_law_classes" sc g cdv X.A X.stack s1 H1 (fun _ _ _ => False) (a, oe)) (cA := cA) (c := c) (fs := fs) C List.mem_cons_self hz hf rfl rfl g5 (S.par r (by simp) |>.elim .inl fun z => .inr (.inl z)) g6 G.bi elts ns g7 fun n hn => ⟨G.mg n hn, hk n hn⟩))), ?_⟩
    refine ⟨rfl, hd, fun H' vs sm pa => ⟨?_, fun l hl => q _ l vs (sm.trans (SameH.new hl)) upd_same (pa.mono (SameH.new hl))⟩⟩
    rw [pa.length, List.length_map, clsAll_length g7, sizeLine_eq]
    omega
  · cases r' with
    | error er => exact hq.elim
    | ok fl =>
      cases fl with
      | ret u => exact I1.after hq
      | next => exact hq.elim
      | brk => exact hq.elim
      | cont => exact hq.elim
end
end Mill

set_option Elab.async false
set_option linter.all false
set_option maxRecDepth 100000
set_option maxHeartbeats 4000000
/-! Mill22: a list comprehension while an exception is handled. -/
namespace PySem
open PyProof.Rows HotX
section
variable {prog : Program} {w : World} {A : Around} {E : Value → Shared → Prop} {s : Shared}
theorem mill_list_end_hot {it l x1 : Addr} {i : Nat} {items : Array Value} {Q : Option Value → Shared → Prop} (hot : HotAt A x1 s.heap) (hne : x1 ≠ it)
    (hit : s.heap.IsListIter it l i) (hl : s.heap.IsList l items) (hx : items[i]? = none)
    (hQ : ∀ h', (∀ b o, b ≠ it → s.heap.get? b = some o → h'.get? b = some o) → Q none { s with heap := h' }) : wpAny (model prog w) A (pyNext (.ref it)) Q E s := by
  obtain ⟨o, ho, hc, hd⟩ := id hit
  obtain ⟨ol, hol, _, nl, hdl⟩ := hl
  obtain ⟨hh, o1, vs1, h1, d1, c1⟩ := hot
  unfold pyNext
  refine wpAny_bind (wpAny_attempt (wpAny_callSpecial?_slot (name := Str.ofString "__next__") hit.typeIs slot_listiter_next
    (wpAny_call_entry slot_listiter_next hit.typeIs entry_listiter_next ?_ (args_listiter_next _))))
  show wpAny _ _ (field (.ref it) 0 >>= _) _ _ s
  refine wpAny_bind (wpAny_field ho hd (x := .ref l) rfl ?_)
  show wpAny _ _ (if (Value.ref l == Value.none) = true then _ else _) _ _ s
  rw [if_neg (show ¬ ((Value.ref l == Value.none) = true) from Bool.false_ne_true)]
  show wpAny _ _ (field (.ref it) 1 >>= _) _ _ s
  refine wpAny_bind (wpAny_field ho hd (x := .int i 0) rfl ?_)
  show wpAny _ _ (seqItems? (.ref l) >>= _) _ _ s
  refine wpAny_bind (wpAny_seqItems hol hdl ?_)
  simp only [Int.toNat_natCast, hx]
  refine wpAny_bind (wpAny_rule (wpAny_bind (wpAny_setField ho hd (by simp) ?_)))
  have h2 : (s.heap.update it (Obj.mapFields (·.setIfInBounds 0 .none))).get? x1 = some o1 := by rw [Heap.get?_update_other _ _ (Ne.symm hne)]; exact h1
  have kp : ∀ b u, b ≠ it → s.heap.get? b = some u → (s.heap.update it (Obj.mapFields (·.setIfInBounds 0 .none))).get? b = some u := fun b u hb e => by rw [Heap.get?_update_other _ _ (Ne.symm hb)]; exact e
  show wpAny _ _ (newExc (.type "StopIteration") [] >>= _) _ _ _
  refine wpAny_bind ?_
  simp only [newExc, newTuple]
  refine wpAny_bind (wpAny_newObj_type ?_ (by size_fits))
  refine wpAny_bind (m := firstArgMember _ _) (wpAny_of_eq (a := Value.none) (by first | rfl | (simp only [firstArgMember]; rfl)) ?_)
  refine wpAny_newObj_type ?_ (by size_fits)
  refine raiseNew_hot ⟨hh, o1, vs1, Heap.get?_push_of_some _ (Heap.get?_push_of_some _ h2), d1, c1⟩ (Nat.ne_of_lt (Heap.lt_size (Heap.get?_push_of_some _ h2))) (Heap.get?_push_size _ rfl) rfl (by first | (simp; done) | (simp; omega) | (simp only [Array.size_append]; simp; omega)) ?_
  refine wpAny_bind (wpAny_isInstance (T := "StopIteration") (b := true) ⟨_, Heap.get?_update_self _ (Heap.get?_push_size _ rfl) rfl, rfl⟩ isSubtype_stop ?_)
  refine wpAny_pure (hQ _ fun b o hb e => ?_)
  have e := kp b o hb e
  rw [Heap.get?_update_other _ _ (Nat.ne_of_gt (Heap.lt_size (Heap.get?_push_of_some _ e)))]
  exact Heap.get?_push_of_some _ (Heap.get?_push_of_some _ e)
end
end PySem
namespace Mill
open PySem PySem.Spec PyProof.Rows L2 L2H HotX
theorem turn_listH {P : Program} {w : World} {K : PySem.W.Frag} {tg : Expr} (a it : Addr) : TurnH P w K tg (Itl K a) [it] it (fun i h => h.IsListIter it a i) where
  mem := by simp
  obj := fun i h st b hb => by
    have e : b = it := by simpa using hb
    subst e
    obtain ⟨o, e, c, d⟩ := st
    exact ⟨o, e, fun v z => by rw [d] at z; cases z⟩
  keep := fun i h h' st k => st.at fun o e => k it (by simp) o e
  item := by
    intro X hP hw hK hc i pins s σ H E I hf st hg
    subst hP hw hK
    obtain ⟨xs, x, hq, hx⟩ := hg
    obtain ⟨its, rv, p, hz⟩ := I.list hq
    obtain ⟨u, hu, ru⟩ := rv.get hx
    obtain ⟨f0, f1, f2, f3, f4, f5⟩ := hf it (by simp)
    refine wpAny_pyNext_list_item st p.isList (x := u) (by simpa using hu) fun h' st' sb => ?_
    have I1 : Inv X pins σ H { s with heap := h' } := I.turned (t' := s.toks) (fun b o hb e => (sb.2 b hb).trans e) f0 f1 f3 f4 f5
    obtain ⟨o, e, c, d⟩ := id st'
    exact ⟨u, rfl, go_of (s := { s with heap := h' }) e c d (by decide) ⟨x, H, I1, ru, ⟨rfl, fun ys hy => by rw [I.list_inj hy hq]; exact hx⟩, st', fun b hb => (hf b hb).1⟩⟩
  done := by
    intro X hP hw hK hc i pins s σ H E I hf st hg
    subst hP hw hK
    obtain ⟨xs, hq, hx⟩ := hg
    obtain ⟨its, rv, p, hz⟩ := I.list hq
    obtain ⟨f0, f1, f2, f3, f4, f5⟩ := hf it (by simp)
    have hl := rv.length
    obtain ⟨q, ⟨hh, v1, e1, c1⟩, hp⟩ := hc
    exact mill_list_end_hot ⟨hh, q.2, v1, (I.pin q (List.mem_append_left _ hp)).1, e1, c1⟩ (f5 q (List.mem_append_left _ hp)) st p.isList (by simp; omega) fun h' eb => ⟨rfl, I.turned (t' := s.toks) (fun b o hb e => eb b o hb e) f0 f1 f3 f4 f5⟩
  self := fun _ _ _ _ _ st h => wpAny_pyIter_listiter st h
theorem pi_listH {X : Cx} {tg l : Expr} {tl : TE} (hl : PE X l tl) : PIH X tg l (iList X.K tl) := by
  refine ⟨fun pins s σ H R I h => ?_⟩
  refine thn (hl.run pins s σ H _ I h) fun v s1 ⟨x, H1, I1, r1, q1⟩ => ?_
  obtain ⟨a, e, ⟨xs, hq⟩, q⟩ := q1
  subst e
  cases r1
  obtain ⟨its, rv, p, hz⟩ := I1.list hq
  refine wpAny_pyIter_list p.isList ?_
  refine ⟨s1.heap.objs.size, [s1.heap.objs.size], _, _, H1, rfl, I1.kept (t' := s1.toks) fun b o e => Heap.get?_push_of_some _ e, turn_listH a _, ⟨_, Heap.get?_push_size _ rfl, rfl, rfl⟩, fun b hb => ?_, q⟩
  have e : b = s1.heap.objs.size := by simpa using hb
  subst e
  exact I1.fpOk (Nat.le_refl _) (I1.hok.fresh (Nat.le_refl _))
/-- a block's context while the exception at p is handled -/
abbrev blkH (X : Cx) (p : Addr × Obj) (s : Shared) (H : Hp) (scope : Scope) (cenv : Env) (fp : List Addr) : Cx := { X.blk s H scope cenv fp with pn := [p] }
theorem blkH_inv {X : Cx} {p : Addr × Obj} {s s4 : Shared} {H : Hp} {scope : Scope} {cenv : Env} {fp : List Addr} {σ : L2.St} (I : Inv (X.blk s H scope cenv fp) [] σ H s4) (g : s.heap.get? p.1 = some p.2) (n : H p.1 = none) (f : p.1 ∉ frs X.stack) (c : ∀ v, p.2.data ≠ .cell v) (nf : p.1 ∉ fp) :
    Inv (blkH X p s H scope cenv fp) [] σ H s4 := by
  have ok := I.ok
  refine ⟨⟨ok.mod, ok.kind, ok.glob, ok.blt, ok.above, ok.inj, ok.has, ok.cab, ok.hd, ok.frames, ok.stk, ok.exf, ok.bs, ok.bsz, ok.noex, ok.exfs, ok.funs, ok.frf⟩, I.os, I.bare, I.base, I.loc, I.cell, I.free, I.freeC, fun q hq => ?_, I.hok, I.len⟩
  have hq' : q = p := by simpa using (show q ∈ [p] ++ ([] : List (Addr × Obj)) from hq)
  subst hq'
  have hL : s.heap.objs.size ≤ cenv.locals := ok.above
  refine ⟨I.base.keep _ _ g n f nf, n, fun z => ?_, f, c⟩
  have h1 := Heap.lt_size g
  have z : q.1 = cenv.locals := z
  rw [z] at h1
  exact absurd (Nat.lt_of_lt_of_le h1 hL) (Nat.lt_irrefl _)
section
variable {X : Cx}
theorem lc_coreH {p : Addr × Obj} {pins : List (Addr × Obj)} {s : Shared} {σ : L2.St} {H : Hp} {Q : VK} {elt tg iter : Expr} {ifs : List Expr} {scope : Scope} {own : List (Str × Nat)} {pos pos' : Pos} {wi : TI} {g : TG} {tt : TT} {te : TE} {use : Option (Value → Sem Unit)} {Qf : Value → Shared → Prop}
    (hot : Hot1 X.A p) (hpX : p ∈ X.pn) (hN : X.N.Nodup) (I : Inv X pins σ H s) (hi : PIH X tg iter wi) (ok : BlkOk X.N X.env.scope scope own)
    (hg : ∀ (s : Shared) (H : Hp) (C : Addr) (cl : List (Str × Addr)) (fp : List Addr), PG (blkH X p s H scope (compEnvC scope cl C X.env) fp) tg g) (ht : ∀ (s : Shared) (H : Hp) (C : Addr) (cl : List (Str × Addr)) (fp : List Addr), PTs (blkH X p s H scope (compEnvC scope cl C X.env) fp) ifs tt)
    (he : ∀ (s : Shared) (H : Hp) (C : Addr) (cl : List (Str × Addr)) (fp : List Addr), PE (blkH X p s H scope (compEnvC scope cl C X.env) fp) elt te) (hs : ∀ x, foldedSetIterable iter X.env x = pure x)
    (h : tLc wi g tt te (own.map (·.2)) σ H Q)
    (hRR : ∀ D C s' m H', Inv X pins σ H' s' → Q (.ref D) H' → s'.heap.Ns C m → FpOk X pins H' C → compPost (model X.prog X.w) X.A X.xe use Qf (.ref D) C (.ok .next) s') :
    wpAny (model X.prog X.w) X.A (comprehension (.ListComp elt [⟨tg, iter, ifs, 0⟩] scope pos) scope X.env pos' (newList []) false (eval iter X.env) use) Qf X.xe s := by
  have hfree : ∀ y ∈ scope.names, y.2 = .free → ∃ c, X.env.cells.lookup y.1 = some c := fun y hy e => by
    rcases ok.free y hy e with k | k
    · exact I.ok.has _ (.inl k)
    · exact I.ok.has _ (.inr k)
  refine wpAny_comprehension_free (use := use) rfl hs (closure_ok hfree) ok.kind (fun y hy e => by rw [ok.uniq y hy, e])
    (thn (hi.run pins s σ H _ I h) fun xv s1 hx => thn hx fun itv s2 h2 => ?_)
  obtain ⟨it, fp, tn, J, H2, e, I2, T, st2, f2, q⟩ := h2
  subst e
  refine wpAny_newObj_type (newEnv_comp ?_) (by show 0 ≤ sizeLine; decide)
  generalize hD : s2.heap.objs.size = D
  have hDn : H2 D = none := I2.hok.fresh (Nat.le_of_eq hD)
  obtain ⟨W, ⟨m0, w0⟩, turn⟩ := q D hDn
  -- the new list
  generalize hs3 : ({ s2 with heap := s2.heap.push { cls := .type "list", data := .seq ([] : List Value).toArray } } : Shared) = s3
  have I3 : Inv X pins σ (upd H2 D (.lst [])) s3 := by
    rw [← hs3]
    refine I2.laid (t' := s2.toks) (fun b o e => Heap.get?_push_of_some _ e) (Nat.le_of_eq hD) ⟨Nat.zero_le _, [], 0, .nil, ?_⟩
    rw [← hD]
    exact Heap.get?_push_size _ rfl
  have h3 : s3.heap = s2.heap.push { cls := .type "list", data := .seq ([] : List Value).toArray } := by rw [← hs3]
  have sz : ∀ b ∈ fp, b < s2.heap.objs.size := fun b hb => by
    obtain ⟨o, e, _⟩ := T.obj _ _ st2 b hb
    exact Heap.lt_size e
  have f3 : ∀ b ∈ fp, FpOk X pins (upd H2 D (.lst [])) b ∧ b < s3.heap.objs.size := fun b hb => by
    have hlt := sz b hb
    refine ⟨⟨?_, (f2 b hb).2⟩, by rw [h3, Heap.size_push]; exact Nat.lt_succ_of_lt hlt⟩
    rw [upd_ne (by rw [← hD]; exact Nat.ne_of_lt hlt)]
    exact (f2 b hb).1
  have st3 : tn 0 s3.heap := T.keep _ _ _ st2 fun b _ o e => by rw [h3]; exact Heap.get?_push_of_some _ e
  have P1 := I3.pin p (List.mem_append_left _ hpX)
  have npf : ∀ b ∈ fp, p.1 ≠ b := fun b hb => (f2 b hb).2.2.2.2.2 p (List.mem_append_left _ hpX)
  have I4 := blkH_inv (p := p) (block_start I3 ok hN f3) P1.1 P1.2.1 (fun hm => (List.mem_cons.mp (I3.stkSub p.1 hm)).elim P1.2.2.1 P1.2.2.2.1) P1.2.2.2.2 fun hm => npf _ hm rfl
  have pg := hg s3 (upd H2 D (.lst [])) s3.heap.objs.size (cellsFrom (s3.heap.objs.size + 1) scope.names (cloFrom X.env.cells scope.names [])) fp
  have pt := ht s3 (upd H2 D (.lst [])) s3.heap.objs.size (cellsFrom (s3.heap.objs.size + 1) scope.names (cloFrom X.env.cells scope.names [])) fp
  have pe := he s3 (upd H2 D (.lst [])) s3.heap.objs.size (cellsFrom (s3.heap.objs.size + 1) scope.names (cloFrom X.env.cells scope.names [])) fp
  show codeAny _ _ (.compStart (.ListComp elt [⟨tg, iter, ifs, 0⟩] scope pos) 0 (.ref it) (.ref D) (compEnvC scope (cellsFrom (s3.heap.objs.size + 1) scope.names (cloFrom X.env.cells scope.names [])) s3.heap.objs.size X.env)) (compPost (model X.prog X.w) X.A X.xe use Qf (.ref D) s3.heap.objs.size) { s3 with heap := pushCells (s3.heap.push { cls := .type "dict", data := .dict #[] }) scope.names }
  have nfp : ∀ b ∈ fp, (upd H2 D (.lst [])) b = none := fun b hb => (f3 b hb).1.1
  generalize hce : compEnvC scope (cellsFrom (s3.heap.objs.size + 1) scope.names (cloFrom X.env.cells scope.names [])) s3.heap.objs.size X.env = ce at I4 pg pt pe ⊢
  have cL : ce.locals = s3.heap.objs.size := by subst hce; rfl
  generalize hH3 : upd H2 D (.lst []) = H3 at I3 I4 pg pt pe w0 nfp f3
  generalize hs4 : ({ s3 with heap := pushCells (s3.heap.push { cls := .type "dict", data := .dict #[] }) scope.names } : Shared) = s4 at I4 ⊢
  have st4 : tn 0 s4.heap := T.keep _ _ _ st3 fun b _ o e => by rw [← hs4]; exact pushCells_keeps _ _ _ _ (Heap.get?_push_of_some _ e)
  have stat : ∀ {σ' : L2.St} {H' : Hp} {s' : Shared}, Inv (blkH X p s3 H3 scope ce fp) [] σ' H' s' → (∀ b ∈ fp, H' b = none) → ∀ b ∈ fp, FpOk (blkH X p s3 H3 scope ce fp) [] H' b := fun {σ' H' s'} I' hn b hb =>
    ⟨hn b hb, (I'.ok.exf b hb).1, I'.ok.exfs b hb, .inl hb, fun x c e => (I'.ok.exf b hb).2 x c e, fun q hq => by
      have hq' : q = p := by simpa using (show q ∈ [p] ++ ([] : List (Addr × Obj)) from hq)
      subst hq'
      exact npf b hb⟩
  have loop : codeAny (model X.prog X.w) X.A (.compLoop (.ListComp elt [⟨tg, iter, ifs, 0⟩] scope pos) 0 (.ref it) (.ref D) ce) (compPost (model X.prog X.w) X.A X.xe use Qf (.ref D) s3.heap.objs.size) s4 := by
    refine compLoop_any (fun n s' => ∃ i H', Inv (blkH X p s3 H3 scope ce fp) [] (wipe σ (own.map (·.2))) H' s' ∧ tn i s'.heap ∧ (∀ b ∈ fp, H' b = none) ∧ W i n H') ?_ m0 ⟨0, H3, I4, st4, nfp, w0⟩
    rintro n s5 ⟨i, H5, I5, st5, n5, w5⟩
    rcases turn i n H5 w5 with ⟨stop, qq⟩ | ⟨go, Nx, hNx, step⟩
    · have td := T.done (blkH X p s3 H3 scope ce fp) rfl rfl rfl ⟨p, hot, List.mem_singleton_self p⟩ i [] s5 _ H5 (fun _ _ => False) I5 (stat I5 n5) st5 stop
      refine thnF td fun r s6 ⟨hr, I6⟩ => ?_
      subst hr
      -- back in the def's context
      have I7 : Inv X pins σ H5 s6 := I3.call' (ch := fp) I6.os I6.base I6.hok I6.bare fun b hb => ⟨(f3 b hb).1.2.2.2.1, (f3 b hb).1.2.1, (f3 b hb).1.2.2.2.2.1, (f3 b hb).1.2.2.2.2.2⟩
      have nC : H5 s3.heap.objs.size = none := by
        have z : H5 ce.locals = none := I6.free
        rw [cL] at z
        exact z
      obtain ⟨m, hn, _⟩ := I6.loc
      have hn : s6.heap.Ns ce.locals m := hn
      rw [cL] at hn
      exact hRR D s3.heap.objs.size s6 m H5 I7 qq hn (I3.fpOk (Nat.le_refl _) nC)
    · have ti := T.item (blkH X p s3 H3 scope ce fp) rfl rfl rfl ⟨p, hot, List.mem_singleton_self p⟩ i [] s5 _ H5 (fun _ _ => False) I5 (stat I5 n5) st5 go
      refine thnF ti fun r s6 ⟨u, hr, h6⟩ => ?_
      subst hr
      refine thnF h6 fun _ s7 ⟨x, H7, I7, r7, y7, st7, n7⟩ => ?_
      have I7' := I7.pinned (stat I7 n7) (T.obj _ _ st7)
      refine thnF (pg.run _ s7 _ H7 x u _ I7' r7 (step x H7 y7)) fun _ s8 ⟨σ8, H8, I8, hw8, q8⟩ => ?_
      refine thnF (pt.run _ s8 σ8 H8 _ I8 q8) fun b s9 ⟨H9, I9, q9⟩ => ?_
      -- the turn's end
      have fin : ∀ {s' : Shared} {H' : Hp}, Inv (blkH X p s3 H3 scope ce fp) ([] ++ pinsAt fp s7.heap) σ8 H' s' → Nx H' → ∃ m, m < n ∧ ∃ i H', Inv (blkH X p s3 H3 scope ce fp) [] (wipe σ (own.map (·.2))) H' s' ∧ tn i s'.heap ∧ (∀ b ∈ fp, H' b = none) ∧ W i m H' := fun {s' H'} I' nx => by
        obtain ⟨m', hm, w'⟩ := hNx H' nx
        have pin' : ∀ b ∈ fp, ∀ o, s7.heap.get? b = some o → s'.heap.get? b = some o ∧ H' b = none := fun b hb o e =>
          let z := I'.pin (b, o) (List.mem_append_right _ (List.mem_append_right _ (mem_pinsAt hb e)))
          ⟨z.1, z.2.1⟩
        have hl : (wipe σ (own.map (·.2))).length = σ8.length := by rw [← hw8, wipe_length]
        refine ⟨m', hm, i + 1, H', (I'.unpinned (pins := [])).weak hl (fun j v e => ?_), T.keep _ _ _ st7 fun b hb o e => (pin' b hb o e).1, fun b hb => ?_, w'⟩
        · rw [← hw8] at e
          exact (wipe_some e).1
        · obtain ⟨o, e, _⟩ := T.obj _ _ st7 b hb
          exact (pin' b hb o e).2
      cases b with
      | false =>
        simp only [Bool.false_eq_true, if_false] at q9 ⊢
        exact fin I9 q9
      | true =>
        simp only [if_true] at q9 ⊢
        refine thnF (pe.run _ s9 σ8 H9 _ I9 q9) fun z s10 ⟨yv, H10, I10, r10, acc, hD10, hz10, nx⟩ => ?_
        exact app_ok (X := blkH X p s3 H3 scope ce fp) I10 hD10 hz10 r10 fun s11 I11 => fin I11 nx
  exact codeAny_compStart_list loop (T.self X.A 0 _ _ _ st4 loop)
theorem pe_lcH {p : Addr × Obj} {elt tg iter : Expr} {ifs : List Expr} {scope : Scope} {own : List (Str × Nat)} {pos : Pos} {wi : TI} {g : TG} {tt : TT} {te : TE} (hot : Hot1 X.A p) (hpX : p ∈ X.pn) (hN : X.N.Nodup) (hi : PIH X tg iter wi) (ok : BlkOk X.N X.env.scope scope own)
    (hg : ∀ (s : Shared) (H : Hp) (C : Addr) (cl : List (Str × Addr)) (fp : List Addr), PG (blkH X p s H scope (compEnvC scope cl C X.env) fp) tg g) (ht : ∀ (s : Shared) (H : Hp) (C : Addr) (cl : List (Str × Addr)) (fp : List Addr), PTs (blkH X p s H scope (compEnvC scope cl C X.env) fp) ifs tt)
    (he : ∀ (s : Shared) (H : Hp) (C : Addr) (cl : List (Str × Addr)) (fp : List Addr), PE (blkH X p s H scope (compEnvC scope cl C X.env) fp) elt te) (hs : ∀ x, foldedSetIterable iter X.env x = pure x) :
    PE X (.ListComp elt [⟨tg, iter, ifs, 0⟩] scope pos) (tLc wi g tt te (own.map (·.2))) := by
  refine ⟨fun pins s σ H Q I h => ?_⟩
  rw [eval_ListComp]
  refine lc_coreH hot hpX hN I hi ok hg ht he hs h fun D C s' m H' I' q hn f => ⟨m, hn, fun h'' sb => ?_⟩
  obtain ⟨f0, f1, f2, f3, f4, f5⟩ := f
  exact ⟨.ref D, H', I'.turned (t' := s'.toks) (fun b o hb e => (sb.2 b hb).trans e) f0 f1 f3 f4 f5, rfl, q⟩
end
end Mill

set_option Elab.async false
set_option linter.all false
set_option maxRecDepth 100000
set_option maxHeartbeats 4000000
/-! Mill23: the suite that tells a refusal's word and what it is about. -/
namespace Mill
open PySem PySem.Spec PyProof.Rows L2 L2H HotX
/-- the words that a pair's true bool leaves -/
def wordsOf (ps : List (Str × Bool)) : List Str := (ps.filter (·.2)).map (·.1)
theorem wordsOf_one {c : Str} : ∀ {ns : List Str}, ns.Nodup → c ∈ ns → wordsOf (ns.map fun n => (n, decide (n = c))) = [c]
  | [], _, h => by cases h
  | n :: ns, nd, h => by
    have nd2 := List.nodup_cons.mp nd
    by_cases e : n = c
    · subst e
      have none : ∀ {ms : List Str}, n ∉ ms → wordsOf (ms.map fun m => (m, decide (m = n))) = [] := fun {ms} hm => by
        unfold wordsOf
        rw [List.map_eq_nil_iff, List.filter_eq_nil_iff]
        intro q hq
        obtain ⟨m, hm1, rfl⟩ := List.mem_map.mp hq
        have : m ≠ n := fun z => hm (by rw [← z]; exact hm1)
        simp [this]
      have r := none nd2.1
      unfold wordsOf at r ⊢
      rw [List.map_cons, List.filter_cons, if_pos (by simp), List.map_cons, r]
    · have hc : c ∈ ns := by
        rcases List.mem_cons.mp h with z | z
        · exact absurd z.symm e
        · exact z
      have r := wordsOf_one nd2.2 hc
      unfold wordsOf at r ⊢
      rw [List.map_cons, List.filter_cons, if_neg (by simp [e]), r]
theorem PairsAt.get {H : Hp} {vs : List V} {ps : List (Str × Bool)} (h : PairsAt H vs ps) : ∀ {i : Nat} {v : V}, vs[i]? = some v → ∃ t n b, v = .ref t ∧ ps[i]? = some (n, b) ∧ H t = some (.tup [.str n, .bl b]) := by
  induction h with
  | nil => intro i v e; simp at e
  | @cons t n b vs ps h1 _ ih =>
    intro i v e
    cases i with
    | zero => simp at e; exact ⟨t, n, b, e.symm, rfl, h1⟩
    | succ i => simp at e; obtain ⟨t', n', b', q1, q2, q3⟩ := ih e; exact ⟨t', n', b', q1, by simpa using q2, q3⟩
theorem wordsOf_snoc {ps : List (Str × Bool)} {i : Nat} {n : Str} {b : Bool} (h : ps[i]? = some (n, b)) : wordsOf (ps.take (i + 1)) = if b = true then wordsOf (ps.take i) ++ [n] else wordsOf (ps.take i) := by
  unfold wordsOf
  rw [List.take_succ, h]
  cases b <;> simp
theorem wordsOf_le (ps : List (Str × Bool)) : (wordsOf ps).length ≤ ps.length := by
  unfold wordsOf
  rw [List.length_map]
  exact List.length_filter_le _ _
/-- what the classes must be -/
structure WordC (K : PySem.W.Frag) (cA : Str → Addr) (ns : List Str) (c : Str) : Prop where
  exc : ExcC K (cA c)
  xf : XfC K (cA c)
  no : PySem.W.findIn K (.ref (cA c)) "what" = some none
  kit : ∀ n ∈ ns, PySem.W.kitOne K (.ref (cA c)) (.ref (cA n)) = some (decide (n = c))
  mem : c ∈ ns
  len : c.length ≤ 1000
def tSuite (cA : Str → Addr) (excs : List Str) (a : Addr) (cls : Value) (d : Option Addr) : TS := fun D σ H => σ[1]? = some (some (.ref a)) ∧ ∃ c ∈ excs, cls = .ref (cA c) ∧ ∃ dd fs vw, d = some dd ∧ H dd = some (.xd fs) ∧ fs.lookup ("what" : Str) = some vw ∧
  ∀ H' T, SameH H H' → H' T = some (.tup [.str c, vw]) → D.rt (.ref T) H'
section
variable {X : Cx} {cA : Str → Addr} {ns excs : List Str} {a : Addr} {oe : Obj} {cls : Value} {d : Option Addr} {pn : List (Addr × Obj)} {k : Nat} {r ln : Str} {dn : Str} {sg scope : Scope}
theorem suite_ok {kk j1 j2 j3 : Nat} {p0 p1 p2 p3 p4 p5 p6 p7 p8 p9 pa pb pc pd pe pu pv pw : Pos} (hN : X.N = [dn, r, ln]) (hnd : X.N.Nodup) (hsg : X.env.scope = sg) (hr : sg.names.lookup r = some .local) (hrn : okName r = true) (hln : scope.names.lookup ln = some .local) (hlnn : okName ln = true) (hcl : sg.names.lookup ("_law_classes" : Str) = some .globalImplicit)
    (hb : blkC [dn, r, ln] sg scope [(ln, 2)] = true) (hline : (p1.endLine == p9.line) = true) (G : ClsDef X cA ns) (hdis : ns.Nodup) (hns : ns.length ≤ 1000) (hw : ∀ c ∈ excs, WordC X.K cA ns c) (hroom : RoomH (k + 1) X.A) (hz : L2N.Zn cls d oe) (hf : ∃ vs, oe.data = .fields vs) :
    PSs (X.suite a ((a, oe) :: pn)) [.Return (some (.Tuple [.Call (.Attribute (.Constant (.str " ") j1 p0) "join" p1) [.ListComp (.Subscript (.Name ln p2) (.Constant (.int 0) j2 p3) p4) [⟨.Name ln p5, .Call (.Name "_law_classes" p6) [.Name r p7] [] p8, [.Subscript (.Name ln pa) (.Constant (.int 1) j3 pb) pc], 0⟩] scope pd] [] p9, .Attribute (.Name r pe) "what" pu] kk pv)) pw] (tSuite cA excs a cls d) := by
  refine ⟨fun pins s σ H D I h => ?_⟩
  obtain ⟨h1, c, hc, rfl, dd, fs, vw, rfl, hdd, hlk, fin⟩ := h
  have W := hw c hc
  have zc := hz.zc
  obtain ⟨vs0, hv0⟩ := hf
  have hot : Hot1 (X.suite a ((a, oe) :: pn)).A (a, oe) := ⟨rfl, vs0, hv0, hz.2.2 vs0 hv0⟩
  have hmem : (a, oe) ∈ (X.suite a ((a, oe) :: pn)).pn := List.mem_cons_self
  have hN1 : (X.suite a ((a, oe) :: pn)).N[1]? = some r := by show X.N[1]? = _; rw [hN]; rfl
  have hv : Vis (X.suite a ((a, oe) :: pn)).env.scope r := .inl (by show X.env.scope.names.lookup r = _; rw [hsg]; exact hr)
  have G' : ClsDef (X.suite a ((a, oe) :: pn)) cA ns := ⟨G.ok, G.bi, G.mg⟩
  have room' : RoomH (k + 1) (X.suite a ((a, oe) :: pn)).A := ⟨hroom.dp, hroom.un⟩
  have pc1 := pe_classes (X := X.suite a ((a, oe) :: pn)) (c := c) (fs := fs) (p := p6) (pos := p8) G' W.exc hot hmem zc ⟨vs0, hv0⟩ room' W.kit (show X.env.scope.names.lookup _ = _ by rw [hsg]; exact hcl) (pe_var (pos := p7) hN1 hv (okName_ok hrn).1 (okName_ok hrn).2) rfl
  have ok : BlkOk (X.suite a ((a, oe) :: pn)).N (X.suite a ((a, oe) :: pn)).env.scope scope [(ln, 2)] := by
    show BlkOk X.N X.env.scope scope _
    rw [hN, hsg]
    exact blkOk_by hb
  have hlb : ∀ (s : Shared) (H : Hp) (C : Addr) (cl : List (Str × Addr)) (fp : List Addr), (blkH (X.suite a ((a, oe) :: pn)) (a, oe) s H scope (compEnvC scope cl C (X.suite a ((a, oe) :: pn)).env) fp).env.scope.names.lookup ln = some .local := fun s H C cl fp => lookup_relS_keep (by decide) hln
  have hN2 : X.N[2]? = some ln := by rw [hN]; rfl
  have pl := pe_lcH (X := X.suite a ((a, oe) :: pn)) (elt := .Subscript (.Name ln p2) (.Constant (.int 0) j2 p3) p4) (tg := .Name ln p5) (ifs := [.Subscript (.Name ln pa) (.Constant (.int 1) j3 pb) pc]) (scope := scope) (own := [(ln, 2)]) (pos := pd) (g := gName 2) (tt := fun σ H Q => tOp (rIx X.K) (tVar 2) (tC (.int 1)) σ H fun x H' => ∃ k, TruV X.K x H' k ∧ Q k H') (te := tOp (rIx X.K) (tVar 2) (tC (.int 0))) hot hmem hnd (pi_listH pc1) ok
    (fun s H C cl fp => pg_name (X := blkH (X.suite a ((a, oe) :: pn)) (a, oe) s H scope (compEnvC scope cl C (X.suite a ((a, oe) :: pn)).env) fp) hnd hN2 (.inl (hlb s H C cl fp)) (.inr (hlb s H C cl fp)))
    (fun s H C cl fp => pts_one (pt_truth (pe_ix (X := blkH (X.suite a ((a, oe) :: pn)) (a, oe) s H scope (compEnvC scope cl C (X.suite a ((a, oe) :: pn)).env) fp) (ix_seq (X := blkH (X.suite a ((a, oe) :: pn)) (a, oe) s H scope (compEnvC scope cl C (X.suite a ((a, oe) :: pn)).env) fp)) (pe_var (pos := pa) hN2 (.inl (hlb s H C cl fp)) (okName_ok hlnn).1 (okName_ok hlnn).2) pe_int (fun _ _ => rfl)) fun _ => rfl))
    (fun s H C cl fp => pe_ix (X := blkH (X.suite a ((a, oe) :: pn)) (a, oe) s H scope (compEnvC scope cl C (X.suite a ((a, oe) :: pn)).env) fp) (ix_seq (X := blkH (X.suite a ((a, oe) :: pn)) (a, oe) s H scope (compEnvC scope cl C (X.suite a ((a, oe) :: pn)).env) fp)) (pe_var (pos := p2) hN2 (.inl (hlb s H C cl fp)) (okName_ok hlnn).1 (okName_ok hlnn).2) pe_int (fun _ _ => rfl)) (fun _ => rfl)
  have pj := pe_join (X := X.suite a ((a, oe) :: pn)) (apos := p1) (pos := p9) (pe_str (x := " ") (j := j1) (pos := p0)) pl rfl rfl hline
  have px := pe_xf (X := X) (a := a) (pn := pn) (pos := pu) W.xf W.no zc ⟨vs0, hv0⟩ (pe_var (X := X.suite a ((a, oe) :: pn)) (pos := pe) hN1 hv (okName_ok hrn).1 (okName_ok hrn).2) rfl
  refine (pss_one (ps_ret (pe_tup (pa_cons pj (pa_cons px pa_nil rfl) rfl)))).run pins s σ H D I ?_
  refine ⟨⟨" ", rfl⟩, ?_⟩
  refine ⟨.ref a, h1, rfl, hdd, fun H1 l ws sm hl pw => ⟨l, rfl, ⟨ws, SqL.of hl⟩, fun D0 hD0 => ?_⟩⟩
  have key : ∀ i H', H' = upd H1 D0 (.lst ((wordsOf ((ns.map fun n => (n, decide (n = c))).take i)).map V.str)) → SqL X.K H' l ws := fun i H' e => by
    subst e
    exact SqL.of (by rw [upd_ne (ne_of_none hl hD0)]; exact hl)
  refine lc_list (K := X.K) (a := l) (xs := ws) (g := gName 2) (tt := fun σ H Q => tOp (rIx X.K) (tVar 2) (tC (.int 1)) σ H fun x H' => ∃ k, TruV X.K x H' k ∧ Q k H') (te := tOp (rIx X.K) (tVar 2) (tC (.int 0))) (vs := [2]) (σ := σ) (H1 := H1) (D := D0) (Qd := fun H' => ∃ a_2 p ys, V.str " " = V.str a_2 ∧ [V.ref D0] = [V.ref p] ∧ (SqL X.K H' p (List.map V.str ys) ∨ SqT X.K H' p (List.map V.str ys)) ∧ (List.map (fun x => x.length) ys).sum + ys.length * a_2.length ≤ 16777216 ∧ tCons (tXf a (Value.ref (cA c)) (some dd) (cA c) "what" (tVar 1)) tNil σ H' fun xs H2 => (V.str (Txt.join a_2 ys) :: xs).length ≤ sizeLine ∧ ∀ (p : Addr), H2 p = none → D.rt (V.ref p) (upd H2 p (HO.tup (V.str (Txt.join a_2 ys) :: xs)))) (fun i H' => H' = upd H1 D0 (.lst ((wordsOf ((ns.map fun n => (n, decide (n = c))).take i)).map V.str))) rfl (fun i H' _ e => key i H' e) (fun i x H' hx e => ?_) fun H' e => ?_
  · obtain ⟨t, n, b, rfl, hps, ht⟩ := pw.get hx
    subst e
    have hto : upd H1 D0 (.lst ((wordsOf ((ns.map fun n => (n, decide (n = c))).take i)).map V.str)) t = some (.tup [.str n, .bl b]) := by rw [upd_ne (ne_of_none ht hD0)]; exact ht
    have h2l : 2 < σ.length := by rw [I.len]; show 2 < X.N.length; rw [hN]; exact Nat.lt_succ_self 2
    have hg2 : ((wipe σ [2]).set 2 (some (V.ref t)))[2]? = some (some (.ref t)) := by rw [List.getElem?_set_self (by rw [wipe_length]; exact h2l)]
    refine ⟨?_, ?_⟩
    · show (wipe ((wipe σ [2]).set 2 (some (V.ref t))) [2]) = wipe σ [2]
      have w1 : ∀ σ' : L2.St, wipe σ' [2] = σ'.set 2 none := fun _ => rfl
      rw [w1, w1, List.set_set, List.set_set]
    · refine ⟨.ref t, hg2, ?_⟩
      refine .inr (.inl ⟨t, _, 1, .bl b, rfl, rfl, SqT.of hto, rfl, b, rfl, ?_⟩)
      have sn := wordsOf_snoc hps
      cases b with
      | false =>
        rw [if_neg Bool.false_ne_true] at sn
        show (if false = true then _ else _)
        rw [if_neg Bool.false_ne_true, sn]
      | true =>
        rw [if_pos rfl] at sn
        show (if true = true then _ else _)
        rw [if_pos rfl]
        refine ⟨.ref t, hg2, .inr (.inl ⟨t, _, 0, .str n, rfl, rfl, SqT.of hto, rfl, ?_⟩)⟩
        refine ⟨_, upd_same, ?_, ?_⟩
        · have hl0 := wordsOf_le ((ns.map fun n => (n, decide (n = c))).take i)
          have hl1 : ((ns.map fun n => (n, decide (n = c))).take i).length ≤ ns.length := by rw [List.length_take, List.length_map]; omega
          rw [List.length_map, sizeLine_eq]
          omega
        · rw [upd_upd, sn, List.map_append]
          rfl
  · subst e
    have hlw : ws.length = (ns.map fun n => (n, decide (n = c))).length := pw.length
    have ht : (ns.map fun n => (n, decide (n = c))).take ws.length = ns.map fun n => (n, decide (n = c)) := by rw [hlw, List.take_length]
    have hw1 : wordsOf ((ns.map fun n => (n, decide (n = c))).take ws.length) = [c] := by rw [ht, wordsOf_one hdis W.mem]
    refine ⟨" ", D0, [c], rfl, rfl, .inl (SqL.of (by rw [upd_same, hw1])), ?_, ?_⟩
    · have := W.len
      show (c.length + 0) + 1 * 1 ≤ 16777216
      omega
    · have hne : ∀ {b : Addr} {o : HO}, H1 b = some o → (upd H1 D0 (HO.lst (List.map V.str (wordsOf (List.take ws.length (List.map (fun n => (n, decide (n = c))) ns)))))) b = some o := fun {b o} e => by rw [upd_ne (ne_of_none e hD0)]; exact e
      refine ⟨.ref a, h1, rfl, rfl, dd, fs, vw, rfl, hne (sm _ _ hdd), hlk, by show 2 ≤ sizeLine; decide, fun T hT => ?_⟩
      have ej : Txt.join " " [c] = c := by rfl
      rw [ej]
      exact fin _ T (fun b o e => by
        have e1 := hne (sm b o e)
        rw [upd_ne (ne_of_none e1 hT)]
        exact e1) upd_same
end
end Mill

set_option Elab.async false
set_option linter.all false
set_option maxRecDepth 100000
set_option maxHeartbeats 4000000
/-! Mill24: a lambda without parameters handed to the def that hears. -/
namespace Mill
open PySem PySem.Spec PyProof.Rows L2 L2H HotX LamX
theorem takesLen {X : Cx} {W : WX} (tk : L2N.Takes X W) : L2N.Takes X (fun cls d σ H => σ.length = X.N.length → W cls d σ H) := fun u s' ⟨a, B, sI, pins, σ, H, cls, d, e, I, nb, up, sky, na, os, ag, w⟩ =>
  tk u s' ⟨a, B, sI, pins, σ, H, cls, d, e, I, nb, up, sky, na, os, ag, w I.len⟩
theorem takesN0 {X : Cx} : L2N.Takes X (fun _ _ _ _ => False) := fun _ _ x => by
  obtain ⟨_, _, _, _, _, _, _, _, _, _, _, _, _, _, _, _, z⟩ := x
  exact z.elim
/-- the context of the lambda's body -/
abbrev lamXe (X : Cx) (A : Around) (outer : List Env) (s : Shared) (H : Hp) (E : XK) (scope : Scope) (f c' : Addr) : Value → Shared → Prop :=
  fun e s' => wpAny (model X.prog X.w) (A.deeper (lamEnv X scope s.heap.objs.size f c')) (leaving (lamEnv X scope s.heap.objs.size f c') e) (fun _ s'' => L2N.CX X.prog X.w outer H s E e s'') (fun e' s'' => L2N.CX X.prog X.w outer H s E e' s'') s'
abbrev lamCxN (X : Cx) (A : Around) (outer : List Env) (s : Shared) (H : Hp) (E : XK) (scope : Scope) (f c' : Addr) : Cx := (lamCx X A outer s H E scope f c').wish (lamXe X A outer s H E scope f c')
/-- all but the tables stay, and nothing is let go -/
structure ExtD (H H' : Hp) : Prop where
  n : ExtN H H'
  dom : ∀ a, H' a = none → H a = none
section
variable {X : Cx} {pins : List (Addr × Obj)} {σ : L2.St} {H HZ : Hp} {s s1 : Shared}
/-- the lambda is made; nothing of the heap is let go -/
theorem lam_make3 {T : List (Addr × Str)} {c P : Addr} {params : Arguments} {body : Expr} {scope : Scope} {pos : Pos} {E : Value → Shared → Prop} {Q : Value → Shared → Prop} (I : Inv X pins σ H s) (TB : TabB X.base X.mg c P) (hcode : X.env.code = .ref c)
    (hm : (P, X.env.qual ++ "<lambda>") ∈ T) (hu : ∀ p ∈ T, p.1 = P → p.2 = X.env.qual ++ "<lambda>") (hT : Tabs T H) (hdef : defaultsOf params X.env = ([], [])) (hfree : ∀ y ∈ scope.names, y.2 = .free → ∃ c, X.env.cells.lookup y.1 = some c)
    (h : ∀ (f c' : Addr) (pm ctv : Value) (H1 : Hp) (s' : Shared), Inv X pins σ H1 s' → ExtD H H1 → Tabs T H1 →
      s'.heap.get? f = some (PySem.W.kla_obj "<lambda>" (X.env.qual ++ "<lambda>") params body scope (cloFrom X.env.cells scope.names []) pm c' ctv) → H1 f = none → f ∉ frs X.stack → H1 c' = some (CodeO c' (X.env.qual ++ "<lambda>")) → Q (.ref f) s') :
    wpAny (model X.prog X.w) X.A (eval (.Lambda params body scope pos) X.env) Q E s := by
  obtain ⟨ps, hP, ht, ha⟩ := hT _ hm
  refine PySem.W.kla_eval hdef ?_
  have bP : s.heap.BuiltinsAt X.mg P := TB.bm.keeps I.bk
  have hP' : s.heap.get? P = some { cls := .none, data := .fields ps } := I.hok P _ hP
  have nofr : ∀ f, s.heap.objs.size ≤ f → f ∉ frs X.stack := fun f hf z => by
    rcases List.mem_cons.mp (I.stkSub _ z) with e | e
    · have h1 := I.lt
      rw [← e] at h1
      exact Nat.lt_irrefl _ (Nat.lt_of_lt_of_le h1 hf)
    · exact I.nofs hf e
  cases hc : codeAmong pos ps.toList with
  | none =>
    refine PySem.W.kla_makeFunction (mg := X.mg) (c := c) (P := P) (ps := ps) (closure_ok hfree) I.ok.glob (I.mod.glob.keeps I.bk) hcode (TB.code.keeps I.bk) hP' ht hc TB.gP bP fun c' ctv h' tk hx hge hlt hrec htb => ?_
    obtain ⟨c2, oc, vs, t, e2, hoc, hd, hv⟩ := hrec
    cases e2
    have hsz : s.heap.objs.size ≤ h'.objs.size := Nat.le_trans hge (Nat.le_of_lt hlt)
    have nC : H c' = none := I.hok.fresh hge
    have I1 := inv_table (t' := tk) (more := #[rawInt pos.line, rawInt pos.col, .ref c']) (h' := h'.push (PySem.W.kla_obj "<lambda>" (X.env.qual ++ "<lambda>") params body scope (cloFrom X.env.cells scope.names []) ((X.mg "__name__").getD .none) c' ctv)) I hP
      (fun b o hb e => Heap.get?_push_of_some _ (hx b o hb e)) (Heap.get?_push_of_some _ htb) hge ⟨oc, vs, t, Heap.get?_push_of_some _ hoc, hd, hv⟩
    have hE : ExtN H (upd (upd H P (.tbl (ps ++ #[rawInt pos.line, rawInt pos.col, .ref c']))) c' (CodeO c' (X.env.qual ++ "<lambda>"))) := fun b o e n => by
      rw [upd_ne (ne_of_none e nC), upd_ne (fun z => n ps (Option.some.inj (e.symm.trans (by rw [z]; exact hP))))]
      exact e
    have hD : ∀ b, (upd (upd H P (.tbl (ps ++ #[rawInt pos.line, rawInt pos.col, .ref c']))) c' (CodeO c' (X.env.qual ++ "<lambda>"))) b = none → H b = none := fun b e => by
      by_cases hb : b = c'
      · rw [hb, upd_same] at e; cases e
      · rw [upd_ne hb] at e
        by_cases hb2 : b = P
        · rw [hb2, upd_same] at e; cases e
        · rw [upd_ne hb2] at e; exact e
    have eL : (ps ++ #[rawInt pos.line, rawInt pos.col, .ref c']).toList = ps.toList ++ [rawInt pos.line, rawInt pos.col, .ref c'] := by simp
    refine h h'.objs.size c' ((X.mg "__name__").getD .none) ctv _ _ I1 ⟨hE, hD⟩ (fun p hp => ?_) (Heap.get?_push_size _ rfl) ?_ (nofr _ hsz) upd_same
    · by_cases hb : p.1 = P
      · rw [hu p hp hb, hb]
        refine ⟨_, by rw [upd_ne (ne_of_none hP nC), upd_same], by rw [eL]; exact PySem.TriplesOk_snoc _ _ _ _ ht, fun p' cv hcv => ?_⟩
        rw [eL] at hcv
        rcases among_app _ ht hcv with z | z
        · obtain ⟨c0, e1, e2⟩ := ha p' cv z
          exact ⟨c0, e1, hE _ _ e2 codeO_ne⟩
        · exact ⟨c', z, upd_same⟩
      · obtain ⟨ps', a1, a2, a3⟩ := hT p hp
        refine ⟨ps', by rw [upd_ne (ne_of_none a1 nC), upd_ne hb]; exact a1, a2, fun p' cv hcv => ?_⟩
        obtain ⟨c0, e1, e2⟩ := a3 p' cv hcv
        exact ⟨c0, e1, hE _ _ e2 codeO_ne⟩
    · have n1 : h'.objs.size ≠ c' := Nat.ne_of_gt hlt
      have n2 : h'.objs.size ≠ P := Nat.ne_of_gt (Nat.lt_of_lt_of_le (Heap.lt_size hP') hsz)
      rw [upd_ne n1, upd_ne n2]
      exact I.hok.fresh hsz
  | some cv =>
    obtain ⟨c', e, hco⟩ := ha pos cv hc
    subst e
    refine PySem.W.kla_makeFunctionHit (mg := X.mg) (c := c) (P := P) (ps := ps) (closure_ok hfree) I.ok.glob (I.mod.glob.keeps I.bk) hcode (TB.code.keeps I.bk) hP' ht hc bP fun ctv h' tk hx hsz => ?_
    have I1 : Inv X pins σ H { s with heap := h'.push (PySem.W.kla_obj "<lambda>" (X.env.qual ++ "<lambda>") params body scope (cloFrom X.env.cells scope.names []) ((X.mg "__name__").getD .none) c' ctv), toks := tk } := I.kept fun b o e => Heap.get?_push_of_some _ (hx b o e)
    exact h h'.objs.size c' ((X.mg "__name__").getD .none) ctv H _ I1 ⟨ExtN.refl H, fun _ e => e⟩ hT (Heap.get?_push_size _ rfl) (I.hok.fresh hsz) (nofr _ hsz) hco
/-- x(), in the def that got the lambda -/
theorem pe_actN {CXg : CXT} {Eg : XK} {Ng : List Str} {qg : Str} {sg : Scope} {g f c' : Addr} {cdg pm ctv : Value} {params : Arguments} {body : Expr} {scope : Scope} {k i : Nat} {a : Str} {pn : List (Addr × Obj)} {xe : Value → Shared → Prop} {W : WX} {E : XK} {tb : TE} {p1 p2 : Pos}
    (I : Inv X pins σ H s) (L : LamS X.env.scope scope) (hf : s.heap.get? f = some (PySem.W.kla_obj "<lambda>" (X.env.qual ++ "<lambda>") params body scope (cloFrom X.env.cells scope.names []) pm c' ctv)) (hfn : H f = none) (hfr : f ∉ frs X.stack)
    (hbind : bindArgs (PySem.W.kla_fn "<lambda>" (X.env.qual ++ "<lambda>") params body scope (cloFrom X.env.cells scope.names []) pm (.ref c') ctv) ⟨[], []⟩ = pure [])
    (tk : L2N.Takes ((cxOf CXg X.prog X.w X.K X.mg X.base Ng qg sg g cdg X.A X.stack s H Eg).tr pn xe) W) (hW : ∀ cls d σ' H', E cls d H' → σ'.length = Ng.length → W cls d σ' H') (hr : Room (k + 1) (X.A.deeper (envOfC qg sg s.heap.objs.size g cdg)))
    (hbody : ∀ (A : Around) (outer : List Env) (s : Shared) (H : Hp), Room k (A.deeper (lamEnv X scope s.heap.objs.size f c')) → PE (lamCxN X A outer s H E scope f c') body tb)
    (hN : Ng[i]? = some a) (hv : Vis sg a) (hd : (a == ("__debug__" : Str)) = false := by decide) (hcd : (a == ("__classdict__" : Str)) = false := by decide) :
    PE ((cxOf CXg X.prog X.w X.K X.mg X.base Ng qg sg g cdg X.A X.stack s H Eg).tr pn xe) (.Call (.Name a p1) [] [] p2)
      (fun σZ HZ Q => σZ[i]? = some (some (.ref f)) ∧ HZ c' = some (CodeO c' (X.env.qual ++ "<lambda>")) ∧ tb σ HZ Q) := by
  refine ⟨fun pinsZ sZ σZ HZ Q IZ h => ?_⟩
  obtain ⟨hs, hc, ht⟩ := h
  refine wpAny_Call_Name_kw (thn ((pe_var (pos := p1) (i := i) hN hv hd hcd).run pinsZ sZ σZ HZ (fun v H1 => v = .ref f ∧ H1 = HZ) IZ ⟨.ref f, hs, rfl, rfl⟩) fun u s1 ⟨v, H1, I1, r1, q1⟩ => ?_)
  obtain ⟨ev, eH⟩ := q1
  subst ev
  rw [eH] at I1
  obtain rfl : u = Value.ref f := r1
  have of1 : s1.heap.get? f = some (PySem.W.kla_obj "<lambda>" (X.env.qual ++ "<lambda>") params body scope (cloFrom X.env.cells scope.names []) pm c' ctv) := I1.base.keep f _ hf hfn hfr (fun z => nomatch (show f ∈ ([] : List Addr) from z))
  refine PySem.W.callWith_F0 ⟨_, _, _, _, of1⟩ ?_
  have un : Un (frs X.stack) [] H HZ s.heap s1.heap := I1.base
  obtain ⟨⟨oc, vs, t, hoc, hdc, hvc⟩, _, _⟩ := I1.hok c' _ hc
  have rc : codeAny (model X.prog X.w) (X.A.deeper (envOfC qg sg s.heap.objs.size g cdg)) (.call (.ref f) ⟨[], []⟩) (CR (L2N.CX X.prog X.w) (envOfC qg sg s.heap.objs.size g cdg :: X.stack) X.prog X.w HZ s1 Q E) s1 := by
    refine PySem.W.kla_callFunE hr.depth of1 rfl L.co L.gen rfl ⟨c', oc, vs, t, rfl, hoc, hdc, hvc⟩ ?_
    rw [hbind]
    refine wpAny_pure (wpAny_newFunctionEnv (fun y hy => (L.own y hy).2) (fun y hy => absurd hy (by simp)) (fun h₁ hns hsb => ⟨I1.nolimit.fresh _ hsb, ?_⟩) L.kind)
    show codeAny _ _ (.expr body (lamEnv X scope s1.heap.objs.size f c')) _ _
    have kp : ∀ b o, s1.heap.get? b = some o → h₁.get? b = some o := fun b o e => hsb.extBut b o (Nat.ne_of_lt (Heap.lt_size e)) (Heap.get?_push_of_some _ e)
    have J : Inv (lamCxN X (X.A.deeper (envOfC qg sg s.heap.objs.size g cdg)) (envOfC qg sg s.heap.objs.size g cdg :: X.stack) s1 HZ E scope f c') [] σ HZ { s1 with heap := h₁, toks := s1.toks + ([] : List (Str × Value)).length } :=
      (lam_start2 I L I1.env0 hr.hd un hns kp).wish _
    refine PySem.W.kla_codeExpr (wpAny_mono ((hbody _ _ s1 HZ (hr.deeper _)).run [] _ _ HZ Q J ht) (fun v s' hq => ?_) fun e s' hq => hq)
    obtain ⟨w', H', J', rv, q⟩ := hq
    exact ⟨w', H', J'.os, J'.bare, J'.base, J'.hok, rv, q⟩
  have hx : Passes (L2N.CX X.prog X.w) ((cxOf CXg X.prog X.w X.K X.mg X.base Ng qg sg g cdg X.A X.stack s H Eg).tr pn xe) E := fun pins2 σ2 H2 s2 e2 s3 I2 c2 => takesLen tk e2 s3 (L2N.XE.of_call I2 (fun cls d H' h => fun hl => hW cls d σ2 H' h hl) c2)
  refine wpAny_call (codeAny_mono rc fun r s' hq => ?_)
  cases r with
  | error e => exact hx pinsZ σZ HZ s1 e s' I1 hq
  | ok fl =>
    cases fl with
    | ret u => exact I1.after hq
    | next => exact False.elim hq
    | brk => exact False.elim hq
    | cont => exact False.elim hq
end
/-- the def that calls what it got: a calls it; TT: what it makes of the lambda's reading -/
def GivesToN (X : Cx) (k : Nat) (Ng : List Str) (x : Str) (sg : Scope) (g : Addr) (cdg : Value) (bg : List Stmt) (a : Str) (q : Str) (TT : (XK → Hp → VK → Prop) → Hp → VK → Prop) : Prop :=
  ∀ (f c' : Addr) (s : Shared) (H : Hp) (Q : VK) (tl : XK → Hp → VK → Prop), Room k (X.A.deeper (envOfC x sg s.heap.objs.size g cdg)) →
    (∀ (W : WX) (pn : List (Addr × Obj)) (xe : Value → Shared → Prop) (E : XK) (p1 p2 : Pos), L2N.Takes ((cxOf C8.CX0 X.prog X.w X.K X.mg X.base Ng x sg g cdg X.A X.stack s H C8.E0).tr pn xe) W → (∀ cls d σ' H', E cls d H' → σ'.length = Ng.length → W cls d σ' H') →
      PE ((cxOf C8.CX0 X.prog X.w X.K X.mg X.base Ng x sg g cdg X.A X.stack s H C8.E0).tr pn xe) (.Call (.Name a p1) [] [] p2) (fun σZ HZ Q => σZ[0]? = some (some (.ref f)) ∧ HZ c' = some (CodeO c' q) ∧ tl E HZ Q)) →
    H c' = some (CodeO c' q) → TT tl H Q →
    ∃ t, PSs (cxOf C8.CX0 X.prog X.w X.K X.mg X.base Ng x sg g cdg X.A X.stack s H C8.E0).nox bg t ∧ t { nx := fun _ H' => Q .non H', rt := Q } (L2.start Ng [.ref f]) H
def tLamD (T : List (Addr × Str)) (TT : (XK → Hp → VK → Prop) → Hp → VK → Prop) (t : XK → TE) : TE := fun σ H Q => Tabs T H ∧ ∀ H1, ExtD H H1 → Tabs T H1 → TT (fun E H' Q' => t E σ H' Q') H1 Q
section
variable {X : Cx}
/-- x(lambda: body) -/
theorem pe_lamcallN {T : List (Addr × Str)} {TT : (XK → Hp → VK → Prop) → Hp → VK → Prop} {x a : Str} {g c P : Addr} {k : Nat} {pg : Arguments} {bg : List Stmt} {sg : Scope} {dV kV doc pm cdv ct oc : Value} {an od : Option Addr} {osl : Array (Option Value)} {Ng : List Str}
    {params : Arguments} {body : Expr} {scope : Scope} {t : XK → TE} {p lpos pos : Pos} (hg : Gl X x) (hm : X.mg x = some (.ref g)) (hk : PySem.W.keepIn X.K (.ref g) = true)
    (lk : X.K.lookup g = some ⟨oc, od, .func (PySem.W.fnOf x x pg bg sg dV kV doc pm an cdv ct), osl⟩) (hcg : PySem.W.codeIn X.K cdv x = true) (hb : L2.Binds X.K (PySem.W.fnOf x x pg bg sg dV kV doc pm an cdv ct) [a] []) (Sg : FnScope Ng [a] sg) (hNg : Ng[0]? = some a) (hva : Vis sg a)
    (hG : GivesToN X (k + 1) Ng x sg g cdv bg a (X.env.qual ++ "<lambda>") TT)
    (TB : TabB X.base X.mg c P) (hcode : X.env.code = .ref c) (hmT : (P, X.env.qual ++ "<lambda>") ∈ T) (hu : ∀ p ∈ T, p.1 = P → p.2 = X.env.qual ++ "<lambda>") (hr : Room (k + 2) X.A) (L : LamS X.env.scope scope) (hdef : defaultsOf params X.env = ([], []))
    (hbind : ∀ (q : Str) (cl : List (Str × Addr)) (pm cv ctv : Value), bindArgs (PySem.W.kla_fn "<lambda>" q params body scope cl pm cv ctv) ⟨[], []⟩ = pure [])
    (hbody : ∀ (A : Around) (outer : List Env) (s : Shared) (H : Hp) (E : XK) (f c' : Addr), Room k (A.deeper (lamEnv X scope s.heap.objs.size f c')) → PE (lamCxN X A outer s H E scope f c') body (t E))
    (hdb : (x == ("__debug__" : Str)) = false := by decide) (hd : (a == ("__debug__" : Str)) = false := by decide) (hcd : (a == ("__classdict__" : Str)) = false := by decide) :
    PE X (.Call (.Name x p) [.Lambda params body scope lpos] [] pos) (tLamD T TT t) := by
  refine ⟨fun pins s σ H Q I h => ?_⟩
  obtain ⟨hT, h⟩ := h
  refine wpAny_Call_Name_kw (ld_glob I hg hm ?_ hdb)
  refine PySem.W.callWith_K (h₀ := X.base) I.ok.mod.kin hk ?_ (by rfl) (by rfl)
  show wpAny _ _ (spliced ((false, eval (.Lambda params body scope lpos) X.env) :: backTo pos (starEach [] X.env))) _ _ s
  refine Calls.spliced_cons (lam_make3 I TB hcode hmT hu hT hdef (L.has I.ok) fun f c' pm' ctv H1 s' I1 eN T1 hf hfn hfr hco => ?_)
  refine Calls.spliced_nil ⟨I1.kIn, ?_⟩
  have rc : codeAny (model X.prog X.w) X.A (.call (.ref g) ⟨[.ref f], []⟩) (CR C8.CX0 X.stack X.prog X.w H1 s' Q C8.E0) s' := by
    refine run_ofS (N := Ng) (ps := [a]) (us := [.ref f]) (vs := [.ref f]) lk hcg Sg hr I1.env0 (hb s' [.ref f] I1.kIn rfl) (.cons rfl .nil) rfl fun hr' => ?_
    obtain ⟨t', ht', hq'⟩ := hG f c' s' H1 Q (fun E H' Q' => t E σ H' Q') hr' (fun W pn xe E p1 p2 tk hW => pe_actN (i := 0) I1 L hf hfn hfr (hbind _ _ _ _ _) tk hW hr' (fun A outer s H hr2 => hbody A outer s H E f c' hr2) hNg hva hd hcd) hco (h H1 eN T1)
    exact ⟨t', ht'.nox, hq'⟩
  refine wpAny_call (codeAny_mono rc fun r s2 hq => ?_)
  cases r with
  | error e => exact (show False from hq).elim
  | ok fl =>
    cases fl with
    | ret u => exact I1.after hq
    | next => exact False.elim hq
    | brk => exact False.elim hq
    | cont => exact False.elim hq
/-- the exceptions that are told -/
def EHeard (cA : Str → Addr) (excs : List Str) (Q : VK) : XK := fun cls d H' => ∃ c ∈ excs, cls = .ref (cA c) ∧ ∃ dd fs vw, d = some dd ∧ H' dd = some (.xd fs) ∧ fs.lookup ("what" : Str) = some vw ∧ ∀ H2 T, SameH H' H2 → H2 T = some (.tup [.str c, vw]) → Q (.ref T) H2
/-- told: try: return ('told', a()) / except x as n: return (words, n.what) -/
def THeard (cA : Str → Addr) (excs : List Str) : (XK → Hp → VK → Prop) → Hp → VK → Prop := fun tl H Q => tl (EHeard cA excs Q) H fun v H1 => ([V.str "told", v] : List V).length ≤ sizeLine ∧ ∀ p, H1 p = none → Q (.ref p) (upd H1 p (.tup [.str "told", v]))
theorem heard_gives {cA : Str → Addr} {ns excs : List Str} {k : Nat} {x dn e r ln q : Str} {sg scope : Scope} {g CS : Addr} {cdg : Value} {j0 kk k0 j1 j2 j3 : Nat} {q0 q1 q2 q3 q4 q5 q6 q7 : Pos} {p0 p1 p2 p3 p4 p5 p6 p7 p8 p9 pa pb pc pd pe pu pv pw : Pos}
    (hge : sg.names.lookup e = some .globalImplicit) (hme : X.mg e = some (.ref CS)) (hde : (e == ("__debug__" : Str)) = false) (hnd : [dn, r, ln].Nodup) (hrl : sg.names.lookup r = some .local) (hrn : okName r = true)
    (hln : scope.names.lookup ln = some .local) (hlnn : okName ln = true) (hcl : sg.names.lookup ("_law_classes" : Str) = some .globalImplicit)
    (hb : blkC [dn, r, ln] sg scope [(ln, 2)] = true) (hline : (p1.endLine == p9.line) = true) (G : ClsDef X cA ns) (hdis : ns.Nodup) (hns : ns.length ≤ 1000) (hw : ∀ c ∈ excs, WordC X.K cA ns c) (hex : ∀ c ∈ excs, PySem.W.exmOne X.K (.ref (cA c)) (.ref CS) = some true) :
    GivesToN X (k + 1) [dn, r, ln] x sg g cdg [.Try [.Return (some (.Tuple [.Constant (.str "told") j0 q0, .Call (.Name dn q1) [] [] q2] k0 q3)) q4] [.ExceptHandler (some (.Name e q5)) (some r) [.Return (some (.Tuple [.Call (.Attribute (.Constant (.str " ") j1 p0) "join" p1) [.ListComp (.Subscript (.Name ln p2) (.Constant (.int 0) j2 p3) p4) [⟨.Name ln p5, .Call (.Name "_law_classes" p6) [.Name r p7] [] p8, [.Subscript (.Name ln pa) (.Constant (.int 1) j3 pb) pc], 0⟩] scope pd] [] p9, .Attribute (.Name r pe) "what" pu] kk pv)) pw] q6] [] [] q7] dn q (THeard cA excs) := by
  intro f c' s H Q tl hr act hc h
  have hgl : Gl (cxOf C8.CX0 X.prog X.w X.K X.mg X.base [dn, r, ln] x sg g cdg X.A X.stack s H C8.E0).nox e := hge
  refine ⟨_, pss_one (L2N.ps_try_as (X := (cxOf C8.CX0 X.prog X.w X.K X.mg X.base [dn, r, ln] x sg g cdg X.A X.stack s H C8.E0).nox) (c := .ref CS) (i := 1)
      (tb := fun W D σ H => ∃ Ech : XK, (∀ cls d σ' H', Ech cls d H' → σ'.length = 3 → W cls d σ' H') ∧ σ[0]? = some (some (.ref f)) ∧ H c' = some (CodeO c' q) ∧ tl Ech H (fun v H1 => ([V.str "told", v] : List V).length ≤ sizeLine ∧ ∀ p, H1 p = none → D.rt (.ref p) (upd H1 p (.tup [.str "told", v]))))
      (ts := tSuite cA excs) rfl rfl hnd rfl hrl ⟨hgl, hde, .inl hme⟩ takesN0 (fun W pn xe tk _ => ?_) (fun a oe cls d pn hz hf => ?_)), ?_⟩
  · refine ⟨fun pins s' σ H' D I h' => ?_⟩
    obtain ⟨Ech, hW, h1, h2, h3⟩ := h'
    have hp := act W pn xe Ech q1 q2 tk hW
    have hq := pss_one (ps_ret (pos := q4) (pe_tup (x1 := k0) (pos := q3) (pa_cons (pe_str (x := "told") (j := j0) (pos := q0)) (pa_cons hp pa_nil rfl) rfl)))
    exact hq.run pins s' σ H' D I ⟨h1, h2, h3⟩
  · exact suite_ok rfl hnd rfl hrl hrn hln hlnn hcl hb hline ⟨G.ok, G.bi, G.mg⟩ hdis hns hw (roomH_of hr) hz hf
  · refine ⟨EHeard cA excs Q, fun cls d σ' H' ⟨c, hce, e1, dd, fs, vw, e2, e3, e4, e5⟩ hl => ⟨true, by rw [e1]; exact hex c hce, fun _ a _ => ⟨by rw [List.getElem?_set_self (by rw [hl]; decide)], c, hce, e1, dd, fs, vw, e2, e3, e4, e5⟩, fun z => by cases z⟩, rfl, hc, h⟩
end
end Mill

set_option Elab.async false
set_option linter.all false
set_option maxRecDepth 100000
set_option maxHeartbeats 4000000
/-! Mill25: a call that is heard. -/
namespace Mill
open PySem PySem.Spec PyProof.Rows L2 L2H HotX LamX
theorem noPar_ok {a : Arguments} (h : noPar a = true) : a = ⟨[], [], none, [], [], none, []⟩ := by
  unfold noPar at h
  split at h
  · rfl
  · cases h
/-- the text of the def that hears -/
def heardBody (dn e r ln : Str) (scope : Scope) (j0 k0 kk j1 j2 j3 : Nat) (q0 q1 q2 q3 q4 q5 q6 q7 p0 p1 p2 p3 p4 p5 p6 p7 p8 p9 pa pb pc pd pe pu pv pw : Pos) : List Stmt :=
  [.Try [.Return (some (.Tuple [.Constant (.str "told") j0 q0, .Call (.Name dn q1) [] [] q2] k0 q3)) q4] [.ExceptHandler (some (.Name e q5)) (some r) [.Return (some (.Tuple [.Call (.Attribute (.Constant (.str " ") j1 p0) "join" p1) [.ListComp (.Subscript (.Name ln p2) (.Constant (.int 0) j2 p3) p4) [⟨.Name ln p5, .Call (.Name "_law_classes" p6) [.Name r p7] [] p8, [.Subscript (.Name ln pa) (.Constant (.int 1) j3 pb) pc], 0⟩] scope pd] [] p9, .Attribute (.Name r pe) "what" pu] kk pv)) pw] q6] [] [] q7]
structure HeardDef (K : PySem.W.Frag) (mg : Str → Option Value) (cA : Str → Addr) (excs : List Str) : Prop where
  ok : ∃ (g CS : Addr) (dn e r ln : Str) (sg scope : Scope) (pg : Arguments) (dV kV doc pm cdv ct oc : Value) (an od : Option Addr) (osl : Array (Option Value)) (j0 k0 kk j1 j2 j3 : Nat) (q0 q1 q2 q3 q4 q5 q6 q7 p0 p1 p2 p3 p4 p5 p6 p7 p8 p9 pa pb pc pd pe pu pv pw : Pos),
    mg "_law_heard" = some (.ref g) ∧ PySem.W.keepIn K (.ref g) = true ∧
    K.lookup g = some ⟨oc, od, .func (PySem.W.fnOf "_law_heard" "_law_heard" pg (heardBody dn e r ln scope j0 k0 kk j1 j2 j3 q0 q1 q2 q3 q4 q5 q6 q7 p0 p1 p2 p3 p4 p5 p6 p7 p8 p9 pa pb pc pd pe pu pv pw) sg dV kV doc pm an cdv ct), osl⟩ ∧
    PySem.W.codeIn K cdv "_law_heard" = true ∧
    L2.Binds K (PySem.W.fnOf "_law_heard" "_law_heard" pg (heardBody dn e r ln scope j0 k0 kk j1 j2 j3 q0 q1 q2 q3 q4 q5 q6 q7 p0 p1 p2 p3 p4 p5 p6 p7 p8 p9 pa pb pc pd pe pu pv pw) sg dV kV doc pm an cdv ct) [dn] [] ∧
    FnScope [dn, r, ln] [dn] sg ∧ sg.names.lookup e = some .globalImplicit ∧ mg e = some (.ref CS) ∧ okName e = true ∧ okName dn = true ∧ sg.names.lookup r = some .local ∧ okName r = true ∧ scope.names.lookup ln = some .local ∧ okName ln = true ∧
    sg.names.lookup ("_law_classes" : Str) = some .globalImplicit ∧ blkC [dn, r, ln] sg scope [(ln, 2)] = true ∧ (p1.endLine == p9.line) = true ∧ ∀ c ∈ excs, PySem.W.exmOne K (.ref (cA c)) (.ref CS) = some true
theorem heard_eq (C : Cfg) (cs : List Str) (e : E) (ρ : Sl) (h : AH) : evE C (.heard cs e) ρ h = (match evE C e ρ h with
      | .ok t h1 => .ok (.d (.tup [.str "told", (nam t h1).1])) (nam t h1).2
      | .exc c w h1 => if c ∈ cs then .ok (.d (.tup [.str c, w])) h1 else .err
      | .err => .err) := rfl
section
variable {W : Wd} {C : Cfg} {N fns excs ns : List Str} {lev : Nat} {sc : Scope} {X : Cx} {xw : WX} {m m1 : List Addr} {H H1 : Hp} {h h1 : AH} {σ : L2.St}
/-- what is heard is told -/
theorem heard_post {x : E} {ρ : Sl} {Q : VK} (rh : RelH W.K W.T m H h) (x1 : Ext [] m H m H1) (hT : Tabs W.T H1) (p : Post W xw σ m H (GT W H) (evE C (.heard excs x) ρ h) Q) (hx : ∀ c ∈ excs, c ∈ excs) :
    Post W (fun cls d _ H' => EHeard W.cA excs Q cls d H') σ m H1 (GT W H1) (evE C x ρ h) (fun v H2 => ([V.str "told", v] : List V).length ≤ sizeLine ∧ ∀ p, H2 p = none → Q (.ref p) (upd H2 p (.tup [.str "told", v]))) := by
  rw [heard_eq] at p
  cases e : evE C x ρ h with
  | ok t h2 =>
    rw [e] at p
    intro m2 H2 v x2 r2 ⟨F, q2, fr⟩
    refine ⟨by show 2 ≤ sizeLine; rw [sizeLine_eq]; omega, fun P hP => ?_⟩
    obtain ⟨r3, q3, x3⟩ := q2.name r2
    have x4 : Ext [] m H (m2 ++ F) H2 := (x1.trans0 x2).trans x3 fun a ha => .inl (x1.dom a (fr a ha))
    have x5 : Ext [] (m2 ++ F) H2 (m2 ++ F) (upd H2 P (.tup [.str "told", v])) := Ext.new hP
    exact p _ _ _ (x4.trans0 x5) (r3.new hP) ⟨[], ⟨.tup (SqT.of upd_same) (.cons (.str _) (.cons (x5.rep q3) .nil)), rfl⟩, fun _ z => absurd z (by simp)⟩
  | exc c w h2 =>
    rw [e] at p
    intro m2 H2 cls d x2 r2 ⟨q1, dd, fs, vw, q2, q3, q4, q5⟩
    replace p : Post W xw σ m H (GT W H) (if c ∈ excs then (R.ok (Tm.d (.tup [.str c, w])) h2 : R Tm) else .err) Q := p
    by_cases hc : c ∈ excs
    · rw [if_pos hc] at p
      refine ⟨c, hc, q1, dd, fs, vw, q2, q3, q4, fun H3 T sm hTp => ?_⟩
      have x3 : Ext [] m2 H2 m2 H3 := ⟨⟨[], by simp, fun _ z => absurd z (by simp)⟩, fun a o e _ _ _ => sm a o e, fun a o e _ => sm a o e, fun a e => by
        cases z : H2 a with
        | none => rfl
        | some o => rw [sm a o z] at e; cases e⟩
      have r3 : RelH W.K W.T m2 H3 h2 := by
        refine ⟨r2.len, r2.nd, fun n a ds e1 e2 => ?_, r2.tab.ext sm⟩
        obtain ⟨vs, z1, z2⟩ := r2.cell n a ds e1 e2
        exact ⟨vs, sm _ _ z1, x3.reps z2⟩
      exact p _ _ _ ((x1.trans0 x2).trans0 x3) r3 ⟨[], ⟨.tup (SqT.of hTp) (.cons (.str _) (.cons (x3.rep q5) .nil)), rfl⟩, fun _ z => absurd z (by simp)⟩
    · rw [if_neg hc] at p; exact p.elim
  | err => rw [e] at p; exact p.elim
theorem snd_heard {params : Arguments} {body : Expr} {ls : Scope} {x : E} {n kk : Nat} {p lp pos : Pos} {c P : Addr} (O : Ok W C N fns lev sc X xw) (hlev : kk + 2 ≤ lev)
    (hcalls : ∀ f ∈ fns, ∃ a k fd ps, X.mg f = some (.ref a) ∧ PySem.W.keepIn X.K (.ref a) = true ∧ L2.Binds X.K fd ps [] ∧ FnOk X.prog X.w X.K X.mg X.base (L2N.CX X.prog X.w) k a fd ps (spOf W (C.call f)) ∧ k ≤ kk)
    (HD : HeardDef X.K X.mg W.cA excs) (G : ClsDef X W.cA ns) (hdis : ns.Nodup) (hns : ns.length ≤ 1000) (hw : ∀ c ∈ excs, WordC X.K W.cA ns c) (hg : sc.names.lookup ("_law_heard" : Str) = some .globalImplicit) (hl : LamX.lamSB sc ls = true) (hpar : noPar params = true) (hx : ofE N fns n ls body = some x)
    (TB : TabB X.base X.mg c P) (hcode : X.env.code = .ref c) (hmT : (P, X.env.qual ++ "<lambda>") ∈ W.T) (hu : ∀ p ∈ W.T, p.1 = P → p.2 = X.env.qual ++ "<lambda>") :
    PE X (.Call (.Name "_law_heard" p) [.Lambda params body ls lp] [] pos) (rdE W C xw (.heard excs x)) := by
  obtain ⟨g, CS, dn, e, r, ln, sg, scope, pg, dV, kV, doc, pm, cdv, ct, oc, an, od, osl, j0, k0, kz, j1, j2, j3, q0, q1, q2, q3, q4, q5, q6, q7, p0, p1, p2, p3, p4, p5, p6, p7, p8, p9, pa, pb, pc, pd, pe, pu, pv, pw, f1, f2, f3, f4, f5, f6, f7, f8, f9, f10, f11, f12, f13, f14, f15, f16, f17, f18⟩ := HD.ok
  have hpe := noPar_ok hpar
  subst hpe
  have hgl : Gl X "_law_heard" := show X.env.scope.names.lookup _ = _ by rw [O.hsc]; exact hg
  have hgv := heard_gives (X := X) (cA := W.cA) (ns := ns) (excs := excs) (k := kk) (x := "_law_heard") (q := X.env.qual ++ "<lambda>") (g := g) (cdg := cdv) (j0 := j0) (kk := kz) (k0 := k0) (j1 := j1) (j2 := j2) (j3 := j3) (q0 := q0) (q1 := q1) (q2 := q2) (q3 := q3) (q4 := q4) (q5 := q5) (q6 := q6) (q7 := q7)
    (p2 := p2) (p3 := p3) (p4 := p4) (p5 := p5) (p6 := p6) (p7 := p7) (p8 := p8) (p0 := p0) (pa := pa) (pb := pb) (pc := pc) (pd := pd) (pe := pe) (pu := pu) (pv := pv) (pw := pw) f7 f8 (okName_ok f9).1 f6.nd f11 f12 f13 f14 f15 f16 f17 G hdis hns hw f18
  have key := pe_lamcallN (X := X) (T := W.T) (t := fun E => rdE W C (fun cls d _ H' => E cls d H') x) (k := kk) (p := p) (lpos := lp) (pos := pos) (params := ⟨[], [], none, [], [], none, []⟩) (body := body) (scope := ls) hgl f1 f2 f3 f4 f5 f6 rfl
    (by rcases f6.par dn (by simp) with z | z
        · exact .inl z
        · exact .inr (.inl z)) hgv TB hcode hmT hu (O.room.mono hlev) (by rw [O.hsc]; exact lamS_by hl) rfl (fun _ _ _ _ _ => rfl)
    (fun A outer s H E f c' hr => by
      have O2 : Ok W C N fns kk ls (lamCxN X A outer s H E ls f c') (fun cls d _ H' => E cls d H') :=
        ⟨O.hK, O.hN, rfl, O.nd, rfl, hr, L2N.takes_of rfl rfl rfl rfl, passes_of rfl, O.blt, O.glob, hcalls⟩
      exact (snd_all N fns n ls body x hx W C kk _ _ O2).1) (by decide +kernel) (okName_ok f10).1 (okName_ok f10).2
  refine pe_mono key fun σ H Q hh => ?_
  obtain ⟨m, h, ρ, rh, s', pp⟩ := hh
  refine ⟨rh.tab, fun H1 D1 T1 => ?_⟩
  have x1 : Ext [] m H m H1 := ⟨⟨[], by simp, fun _ z => absurd z (by simp)⟩, fun a o e _ _ t => D1.n a o e t, fun a o e i => D1.n a o e fun ps z => by rw [z] at i; exact i, D1.dom⟩
  have r1 : RelH W.K W.T m H1 h := ⟨rh.len, rh.nd, fun n a ds e1 e2 => by
    obtain ⟨vs, z1, z2⟩ := rh.cell n a ds e1 e2
    exact ⟨vs, D1.n _ _ z1 (fun ps z => by cases z), x1.reps z2⟩, T1⟩
  exact ⟨m, h, ρ, r1, x1.rels s', heard_post rh x1 T1 pp fun _ z => z⟩
end
end Mill

set_option Elab.async false
set_option linter.all false
set_option maxRecDepth 100000
set_option maxHeartbeats 4000000
/-! Mill26: every def of the program computes what callF computes. -/
namespace Mill
open PySem PySem.Spec PyProof.Rows L2 L2H HotX LamX
structure DefK (K : PySem.W.Frag) (mg : Str → Option Value) (base : Heap) (T : List (Addr × Str)) (fns excs : List Str) (x : Str) (fn : Fn) : Prop where
  ok : ∃ (f : Addr) (N ps : List Str) (params : Arguments) (body : List Stmt) (scope : Scope) (dV kV doc pm cdv ct oc : Value) (an od : Option Addr) (osl : Array (Option Value)) (n : Nat),
    mg x = some (.ref f) ∧ PySem.W.keepIn K (.ref f) = true ∧ K.lookup f = some ⟨oc, od, .func (PySem.W.fnOf x x params body scope dV kV doc pm an cdv ct), osl⟩ ∧ PySem.W.codeIn K cdv x = true ∧
    L2.Binds K (PySem.W.fnOf x x params body scope dV kV doc pm an cdv ct) ps [] ∧ FnScope N ps scope ∧ ofSs (ofZip N fns scope) (ofS N fns excs scope n) body = some fn.body ∧ fn.ps = ps.length ∧ fn.n = N.length ∧
    (scope.names.lookup ("_law_heard" : Str) = some .globalImplicit → ∃ c Pt, cdv = .ref c ∧ TabB base mg c Pt ∧ (Pt, x ++ ".<locals>." ++ "<lambda>") ∈ T ∧ ∀ p ∈ T, p.1 = Pt → p.2 = x ++ ".<locals>." ++ "<lambda>")
structure MkK (P : Program) (w : World) (K : PySem.W.Frag) (mg : Str → Option Value) (base : Heap) (cA : Str → Addr) (c : Str) : Prop where
  ok : ∃ (C fI : Addr) (n : Str) (fd : FuncData), OexC K C ∧ PySem.W.findIn K (.ref C) "__init__" = some (some (.ref fI)) ∧ PySem.W.typeIn K (.ref fI) = some (.type "function") ∧
    FnOk P w K mg base CXn 8 fI fd ["self", "what"] (spL C n) ∧ L2.Binds K fd ["self", "what"] [] ∧ mg c = some (.ref C) ∧ cA c = C
structure ProgK (W : Wd) (P : Program) (w : World) (mg : Str → Option Value) (base : Heap) (Pg : Prog) (fns excs ns : List Str) : Prop where
  blt : ∀ x, x ∈ bltNames ∨ x ∈ iterNames ∨ x = "isinstance" ∨ x ∈ tyNames → mg x = none
  glob : ∀ x d, Pg.glob x = some d → ∃ u v, mg x = some u ∧ RelV v u ∧ ∀ m H, Rep W.K m H d v
  defs : ∀ x ∈ fns, ∃ fn, Pg.fn x = some fn ∧ DefK W.K mg base W.T fns excs x fn
  mks : ∀ c ∈ excs, MkK P w W.K mg base W.cA c
  hear : HeardDef W.K mg W.cA excs
  cls : ∀ X : Cx, X.K = W.K → X.mg = mg → ClsDef X W.cA ns
  nsd : ns.Nodup
  nsl : ns.length ≤ 1000
  words : ∀ c ∈ excs, WordC W.K W.cA ns c
theorem RepTs.free {K : PySem.W.Frag} {m F : List Addr} {H : Hp} {ts : List Tm} {vs : List V} (r : RepTs K m H ts vs F) : ∀ a ∈ F, H a ≠ none := by
  induction r with
  | nil => intro a ha; simp at ha
  | cons a b c ih =>
    intro p hp
    rcases List.mem_append.mp hp with z | z
    · exact RepT.free (F := []) Ext.refl a p z
    · exact ih p z
section
variable {W : Wd} {P : Program} {w : World} {mg : Str → Option Value} {base : Heap} {Pg : Prog} {fns excs ns : List Str}
theorem callF_eq {wf k : Nat} {x : Str} {fn : Fn} (hfn : Pg.fn x = some fn) (ts : List Tm) (h : AH) : callF Pg wf (k + 1) x ts h = runFn (cfg Pg wf k) wf fn ts h := by
  show (match Pg.fn x with | some fn => runFn ⟨callF Pg wf k, Pg.glob⟩ wf fn ts h | none => .err) = _
  rw [hfn]
def CallsOk (W : Wd) (P : Program) (w : World) (mg : Str → Option Value) (base : Heap) (fns : List Str) (call : Str → List Tm → AH → R Tm) (kk : Nat) : Prop :=
  ∀ x ∈ fns, ∃ a k fd ps, mg x = some (.ref a) ∧ PySem.W.keepIn W.K (.ref a) = true ∧ L2.Binds W.K fd ps [] ∧ FnOk P w W.K mg base (L2N.CX P w) k a fd ps (spOf W (call x)) ∧ k ≤ kk
abbrev defX (W : Wd) (P : Program) (w : World) (mg : Str → Option Value) (base : Heap) (N : List Str) (x : Str) (scope : Scope) (f : Addr) (cdv : Value) (A : Around) (outer : List Env) (s : Shared) (H : Hp) (E : XK) : Cx := cxOf (L2N.CX P w) P w W.K mg base N x scope f cdv A outer s H E
theorem def_ok {C : Cfg} {N : List Str} {x : Str} {scope : Scope} {f : Addr} {cdv : Value} {A : Around} {outer : List Env} {s : Shared} {H : Hp} {E : XK} {kk : Nat} (PK : ProgK W P w mg base Pg fns excs ns) (hC : C.glob = Pg.glob) (hc : CallsOk W P w mg base fns C.call kk) (nd : N.Nodup)
    (hr : Room (kk + 2) (A.deeper (envOfC x scope s.heap.objs.size f cdv))) : Ok W C N fns (kk + 2) scope (defX W P w mg base N x scope f cdv A outer s H E) (fun cls d _ H' => E cls d H') :=
  ⟨rfl, rfl, rfl, nd, rfl, hr, L2N.takes_of rfl rfl rfl rfl, passes_of rfl, PK.blt, fun x d e => PK.glob x d (by rw [← hC]; exact e), fun g hg => by
        obtain ⟨a, k, fd, qs, e1, e2, e3, e4, e5⟩ := hc g hg
        exact ⟨a, k, fd, qs, e1, e2, e3, e4, Nat.le_trans e5 (Nat.le_add_right _ _)⟩⟩
theorem def_heard {C : Cfg} {N : List Str} {x : Str} {scope : Scope} {f : Addr} {cdv : Value} {A : Around} {outer : List Env} {s : Shared} {H : Hp} {E : XK} {kk : Nat} (PK : ProgK W P w mg base Pg fns excs ns) (hC : C.glob = Pg.glob) (hc : CallsOk W P w mg base fns C.call kk) (nd : N.Nodup)
    (hr : Room (kk + 2) (A.deeper (envOfC x scope s.heap.objs.size f cdv)))
    (d9 : scope.names.lookup ("_law_heard" : Str) = some .globalImplicit → ∃ c Pt, cdv = .ref c ∧ TabB base mg c Pt ∧ (Pt, x ++ ".<locals>." ++ "<lambda>") ∈ W.T ∧ ∀ p ∈ W.T, p.1 = Pt → p.2 = x ++ ".<locals>." ++ "<lambda>")
    {params : Arguments} {body : Expr} {ls : Scope} {y : Mill.E} {n : Nat} {p lp pos : Pos} (hg : scope.names.lookup ("_law_heard" : Str) = some .globalImplicit) (hl : LamX.lamSB scope ls = true) (hp : noPar params = true) (hy : ofE N fns n ls body = some y) :
    PE (defX W P w mg base N x scope f cdv A outer s H E) (.Call (.Name "_law_heard" p) [.Lambda params body ls lp] [] pos) (rdE W C (fun cls d _ H' => E cls d H') (.heard excs y)) := by
  obtain ⟨c, Pt, e, TB, hm, hu⟩ := d9 hg
  have O : Ok W C N fns (kk + 2) scope (defX W P w mg base N x scope f cdv A outer s H E) (fun cls d _ H' => E cls d H') := def_ok PK hC hc nd hr
  have G := PK.cls (defX W P w mg base N x scope f cdv A outer s H E) rfl rfl
  exact snd_heard O (Nat.le_refl (kk + 2)) hc PK.hear G PK.nsd PK.nsl PK.words hg hl hp hy TB e hm hu
theorem def_okS {C : Cfg} {N : List Str} {x : Str} {scope : Scope} {f : Addr} {cdv : Value} {A : Around} {outer : List Env} {s : Shared} {H : Hp} {E : XK} {kk : Nat} (PK : ProgK W P w mg base Pg fns excs ns) (hC : C.glob = Pg.glob) (hc : CallsOk W P w mg base fns C.call kk) (nd : N.Nodup)
    (hr : Room (kk + 2) (A.deeper (envOfC x scope s.heap.objs.size f cdv))) (hk : 8 ≤ kk)
    (d9 : scope.names.lookup ("_law_heard" : Str) = some .globalImplicit → ∃ c Pt, cdv = .ref c ∧ TabB base mg c Pt ∧ (Pt, x ++ ".<locals>." ++ "<lambda>") ∈ W.T ∧ ∀ p ∈ W.T, p.1 = Pt → p.2 = x ++ ".<locals>." ++ "<lambda>") :
    OkS W C N fns excs (kk + 2) scope (defX W P w mg base N x scope f cdv A outer s H E) (fun cls d _ H' => E cls d H') where
  toOk := def_ok PK hC hc nd hr
  fnc := fun _ _ => rfl
  mks := fun c hce => by
    obtain ⟨C, fI, n, fd, e1, e2, e3, e4, e5, e6, e7⟩ := (PK.mks c hce).ok
    exact mk_ok e1 e2 e3 e4 (hr.mono (by omega)) e5 e6 e7
  heard := fun pa bo ls y n' p lp pos hg hl hp hy => by
    exact def_heard PK hC hc nd hr d9 hg hl hp hy
theorem fn_len {K : PySem.W.Frag} {wf : Nat} {C : Cfg} {fn : Fn} {ps : List Str} (d7 : fn.ps = ps.length) : ∀ vs H Q E, spOf W (runFn C wf fn) vs H Q E → vs.length = ps.length := fun vs H Q E h => by
  obtain ⟨m, h', ts, F, rh, rt, p⟩ := h
  unfold runFn at p
  by_cases e : ts.length = fn.ps
  · rw [← rt.length, e, d7]
  · rw [if_neg e] at p; exact p.elim
theorem fn_body {N ps : List Str} {fn : Fn} {C : Cfg} {wf : Nat} {H : Hp} {vs : List V} {Q : VK} {E : XK} (d7 : fn.ps = ps.length) (d8 : fn.n = N.length) (hl : vs.length = ps.length) (hsp : spOf W (runFn C wf fn) vs H Q E) :
    rdSs W C (fun cls d _ H' => E cls d H') wf fn.body { nx := fun _ H' => Q .non H', rt := Q } (L2.start N vs) H := by
  obtain ⟨m, h, ts, F, rh, rt, p⟩ := hsp
  unfold runFn at p
  have et : ts.length = fn.ps := by rw [rt.length, hl, d7]
  rw [if_pos et] at p
  obtain ⟨r1, q1, x1⟩ := rt.name rh
  refine ⟨m ++ F, (namAll ts h).2, _, r1, ?_, post_finish rh.len p x1 rt.free⟩
  rw [d7]
  exact start_rels (ts := ts) q1 d8 hl
theorem fn_ok {C : Cfg} {x : Str} {kk wf : Nat} {fn : Fn} (PK : ProgK W P w mg base Pg fns excs ns) (hC : C.glob = Pg.glob) (hc : CallsOk W P w mg base fns C.call kk) (hk : 8 ≤ kk) (D : DefK W.K mg base W.T fns excs x fn) :
    ∃ a k fd ps, mg x = some (.ref a) ∧ PySem.W.keepIn W.K (.ref a) = true ∧ L2.Binds W.K fd ps [] ∧ FnOk P w W.K mg base (L2N.CX P w) k a fd ps (spOf W (runFn C wf fn)) ∧ k ≤ kk + 3 := by
  obtain ⟨f, N, ps, params, body, scope, dV, kV, doc, pm, cdv, ct, oc, an, od, osl, n, d1, d2, d3, d4, d5, S, d6, d7, d8, d9⟩ := D.ok
  refine ⟨f, kk + 2 + 1, _, ps, d1, d2, d5, fn_of d3 d4 S (fn_len (K := W.K) d7) (fun A outer s H vs Q E hr hsp => ?_), Nat.le_refl _⟩
  exact ⟨_, snss (wf := wf) (def_okS PK hC hc S.nd hr hk d9) (fun s x h => sns_all (def_okS PK hC hc S.nd hr hk d9) n s x h) body fn.body d6, fn_body d7 d8 (fn_len (K := W.K) d7 _ _ _ _ hsp) hsp⟩
theorem prog_ok (PK : ProgK W P w mg base Pg fns excs ns) (wf : Nat) (k : Nat) : CallsOk W P w mg base fns (callF Pg wf k) (3 * k + 8) := by
  induction k with
  | zero =>
    intro x hx
    obtain ⟨fn, _, D⟩ := PK.defs x hx
    obtain ⟨f, N, ps, params, body, scope, dV, kV, doc, pm, cdv, ct, oc, an, od, osl, n, d1, d2, d3, d4, d5, _⟩ := D.ok
    refine ⟨f, 0, _, ps, d1, d2, d5, ⟨fun vs H Q E h => ?_, fun A outer s H args us vs Q E _ _ _ _ h => ?_⟩, Nat.zero_le _⟩
    · obtain ⟨m, h', ts, F, _, _, p⟩ := h; exact p.elim
    · obtain ⟨m, h', ts, F, _, _, p⟩ := h; exact p.elim
  | succ k ih =>
    intro x hx
    obtain ⟨fn, hfn, D⟩ := PK.defs x hx
    have e : callF Pg wf (k + 1) x = runFn (cfg Pg wf k) wf fn := by
      funext ts h
      exact callF_eq hfn ts h
    rw [e]
    exact fn_ok (C := cfg Pg wf k) PK rfl ih (by omega) D
end
end Mill

set_option Elab.async false
set_option linter.all false
set_option maxRecDepth 100000
set_option maxHeartbeats 4000000
/-! Mill27: what is asked of the module's objects, as Bools; the Hook that tells them. -/
namespace Mill
open PySem PySem.Spec PyProof.Rows L2 L2H HotX LamX NdefX He
/-! ### parameters -/
def parNames (a : Arguments) : Option (List Str) := match a with
  | ⟨[], as, none, [], [], none, []⟩ => some (as.map (·.arg))
  | _ => none
theorem parNames_ok {a : Arguments} {ps : List Str} (h : parNames a = some ps) : ∃ as, a = ⟨[], as, none, [], [], none, []⟩ ∧ ps = as.map (·.arg) := by
  unfold parNames at h
  split at h
  · cases h; exact ⟨_, rfl, rfl⟩
  · cases h
/-- .. defaults or none -/
def parNamesD (a : Arguments) : Option (List Str) := match a with
  | ⟨[], as, none, [], [], none, _⟩ => some (as.map (·.arg))
  | _ => none
theorem parNamesD_ok {a : Arguments} {ps : List Str} (h : parNamesD a = some ps) : ∃ as dfl, a = ⟨[], as, none, [], [], none, dfl⟩ ∧ ps = as.map (·.arg) := by
  unfold parNamesD at h
  split at h
  · cases h; exact ⟨_, _, rfl, rfl⟩
  · cases h
/-! ### an own exception's class -/
def oexB (K : PySem.W.Frag) (C : Addr) : Bool := (match K.lookup C with
  | some ⟨.type "type", _, .cls cd, sl⟩ => (match cd.mro, sl.toList with
    | .ref C' :: bm, [_, _, _, _, some (.builtin n), _] => C' == C && n == "ValueError.__new__" && !cd.hasDel && cd.hasDict && PySem.HandSPX.refsVE bm
    | _, _ => false)
  | _ => false) && (eqO (PySem.W.findIn K (.ref C) "__setattr__") (some (some (.builtin "object.__setattr__"))) && (decide (PySem.W.subIn K (.ref C) (.type "BaseException") = some true) && (decide (PySem.W.typeIn K (.ref C) = some (.type "type")) && PySem.W.keepIn K (.ref C))))
theorem oexB_ok {K : PySem.W.Frag} {C : Addr} (h : oexB K C = true) : OexC K C := by
  obtain ⟨q, h⟩ := ba h
  obtain ⟨h1, h⟩ := ba h
  obtain ⟨h2, h⟩ := ba h
  obtain ⟨h3, h4⟩ := ba h
  refine ⟨?_, eqO_ok h1, of_decide_eq_true h2, of_decide_eq_true h3, h4⟩
  split at q
  · rename_i dd cd sl ho
    split at q
    · rename_i C' bm k0 k1 k2 k3 n k5 hm hs
      simp only [Bool.and_eq_true, beq_iff_eq, Bool.not_eq_true'] at q
      obtain ⟨⟨⟨⟨rfl, rfl⟩, hdel⟩, hdct⟩, ht⟩ := q
      obtain ⟨nm, bs, mro, ns, qn, hd, sn, sub, ab, col, del⟩ := cd
      dsimp only at hm hdel hdct
      subst hm hdel hdct
      have hsl : sl = #[k0, k1, k2, k3, some (.builtin "ValueError.__new__"), k5] := by
        obtain ⟨l⟩ := sl
        simp only at hs
        rw [hs]
      subst hsl
      exact ⟨nm, qn, ns, bs, bm, sn, sub, ab, col, dd, k0, k1, k2, k3, k5, ho, ht⟩
    · cases q
  · cases q
def excB (K : PySem.W.Frag) (D : Addr) : Bool := eqO (PySem.W.findIn K (.ref D) "__getattribute__") (some (some (.builtin "BaseException.__getattribute__"))) && (eqO (PySem.W.findIn K (.ref D) "__getattr__") (some none) && (decide (PySem.W.subIn K (.ref D) (.type "BaseException") = some true) &&
  (PySem.W.hasDictIn K D && (eqO (PySem.W.findIn K (.ref D) "__class__") (some (some (.builtin "object.__class__"))) && (eqO (PySem.W.specialIn K (.builtin "object.__class__") "__get__") (some (some (.builtin "getset_descriptor.__get__"))) &&
  (decide (PySem.W.takesIn K (.builtin "object.__class__") = some true) && decide (PySem.W.mroIn K D (.type "object") = some true)))))))
theorem excB_ok {K : PySem.W.Frag} {D : Addr} (h : excB K D = true) : ExcC K D := by
  obtain ⟨h1, h⟩ := ba h
  obtain ⟨h2, h⟩ := ba h
  obtain ⟨h3, h⟩ := ba h
  obtain ⟨h4, h⟩ := ba h
  obtain ⟨h5, h⟩ := ba h
  obtain ⟨h6, h⟩ := ba h
  obtain ⟨h7, h8⟩ := ba h
  exact ⟨eqO_ok h1, eqO_ok h2, of_decide_eq_true h3, h4, eqO_ok h5, eqO_ok h6, of_decide_eq_true h7, of_decide_eq_true h8⟩
/-! ### an __init__ with super() -/
abbrev InW : Type := Option (Str × Str × Arguments × FuncBody × Scope × Addr × Addr)
structure InD where
  cls : Str
  name : Str
  qual : Str
  params : Arguments
  body : List Stmt
  scope : Scope
def InD.val (d : InD) : InW := some (d.name, d.qual, d.params, .stmts d.body, d.scope, mainGlobals, builtinsNs)
def inA (K : PySem.W.Frag) (x : Str) : Addr := ma K (ga K x) "__init__"
def inW (K : PySem.W.Frag) (x : Str) : InW := match K.lookup (inA K x) with
  | some ⟨_, _, .func fd, _⟩ => some (fd.name, fd.qualname, fd.params, fd.body, fd.scope, fd.globals, fd.builtins)
  | _ => none
/-- no defaults, or a tuple that K holds -/
def dflOk (K : PySem.W.Frag) (v : Value) : Bool := match v with
  | .none => true
  | .ref T => (match K.lookup T with
    | some ⟨_, _, .seq _ _, _⟩ => true
    | _ => false)
  | _ => false
def supB (K : PySem.W.Frag) (file0 : Str) (x : Str) : Bool := eqO (PySem.W.findIn K (.ref (ga K x)) "__init__") (some (some (.ref (inA K x)))) && ((PySem.W.clsIn K (ga K x)).isSome && (PySem.W.fnIn K (inA K x) && (decide (PySem.W.typeIn K (.ref (inA K x)) = some (.type "function")) && (match K.lookup (inA K x) with
  | some ⟨_, _, .func fd, _⟩ => dflOk K fd.defaults && (match fd.closure, fd.code with
    | [(y, cc)], .ref c => y == ("__class__" : Str) && (PySem.W.codeIn K (.ref c) fd.qualname && ((match K.lookup cc with
        | some ⟨_, _, .cell (some (.ref D)), _⟩ => D == ga K x
        | _ => false) && (match K.lookup c with
        | some ⟨_, _, .fields vs, _⟩ => (match (vs[2]? : Option Value) with
          | some (.str file _) => file0 == file
          | _ => false)
        | _ => false)))
    | _, _ => false)
  | _ => false))))
theorem supB_ok {P : Program} {K : PySem.W.Frag} {mg : Str → Option Value} {x : Str} {d : InD} {a0 : Arg} {as : List Arg} (hx : d.cls = x) (e : inW K x = d.val) (h : supB K P.main.file x = true) {dfl : List Expr} (hp : d.params = ⟨[], a0 :: as, none, [], [], none, dfl⟩) (h0 : a0.arg = "self")
    (top : (P.main.scope.names.lookup ("super" : Str)).isSome = false) (sup : mg "super" = none) (stat : PySem.W.nsIn K cStatics "thirdparty.any" = some none)
    (ks : d.scope.names.lookup ("super" : Str) = some .globalImplicit) (kc : d.scope.names.lookup ("__class__" : Str) = some .free) (kx : d.scope.names.lookup ("self" : Str) = some .local) :
    PySem.W.findIn K (.ref (ga K x)) "__init__" = some (some (.ref (inA K x))) ∧ PySem.W.fnIn K (inA K x) = true ∧ PySem.W.typeIn K (.ref (inA K x)) = some (.type "function") ∧
    ∃ (F : NF) (fd : FuncData) (cc : Addr), F.body = d.body ∧ F.scope = d.scope ∧ fd.params = d.params ∧ dflOk K fd.defaults = true ∧ SupC P K mg (inA K x) F fd cc (ga K x) "self" := by
  obtain ⟨h1, h⟩ := ba h
  obtain ⟨h2, h⟩ := ba h
  obtain ⟨h3, h⟩ := ba h
  obtain ⟨h4, h⟩ := ba h
  refine ⟨eqO_ok h1, h3, of_decide_eq_true h4, ?_⟩
  unfold inW at e
  split at h
  · rename_i oc od fd osl lk
    rw [lk] at e
    have hdf := (ba h).1
    replace h := (ba h).2
    split at h
    · rename_i y cc c hcl hco
      obtain ⟨n1, n2, n3, n4, n5, n6, n7, n8, n9, n10, n11, n12, n13, n14, n15⟩ := fd
      have e2 : (some (n1, n2, n3, n4, n5, n6, n15) : InW) = some (d.name, d.qual, d.params, .stmts d.body, d.scope, mainGlobals, builtinsNs) := e
      simp only [Option.some.injEq, Prod.mk.injEq] at e2
      obtain ⟨e3, e4, e5, e6, e7, e8, e9⟩ := e2
      dsimp only at hcl hco h hdf
      subst e3 e4 e5 e6 e7 e8 e9 hcl hco
      obtain ⟨g1, h⟩ := ba h
      obtain ⟨g2, h⟩ := ba h
      obtain ⟨g3, g4⟩ := ba h
      have g1 : y = ("__class__" : Str) := beq_iff_eq.mp g1
      subst g1
      refine ⟨⟨d.name, d.qual, d.params, d.body, d.scope, [(("__class__" : Str), cc)], c⟩, _, cc, rfl, rfl, rfl, hdf, ⟨⟨oc, od, osl, lk⟩, rfl, rfl, rfl, rfl, rfl, fun _ => rfl, ⟨a0, by show (d.params.posonlyargs ++ d.params.args).head? = _; rw [hp]; rfl, h0⟩, g2, ?_, ?_, ?_, top, sup, stat, ks, kc, kx⟩⟩
      · split at g4
        · rename_i oc2 od2 vs osl2 lk2
          split at g4
          · rename_i file tf hv
            exact ⟨oc2, od2, vs, osl2, file, tf, lk2, hv, g4⟩
          · cases g4
        · cases g4
      · split at g3
        · rename_i oc2 od2 D osl2 lk2
          have : D = ga K x := beq_iff_eq.mp g3
          subst this
          exact ⟨oc2, od2, osl2, lk2⟩
        · cases g3
      · exact Option.isSome_iff_exists.mp h2
    · cases h
  · cases h
/-! ### the Hook -/
structure SaysY (fn : List DefD) (is : List InD) (tf : List Defn) (ex : PySem.W.Frag → Bool) (w : World) (h : Heap) (K : PySem.W.Frag) : Prop where
  t : SaysD [] fn K
  more : ex K = true
  hd : ∀ p ∈ tf, PySem.W.codeHdIn K (cT K p).1 (cT K p).2 = true
  out : ∀ p ∈ tf, K.lookup (cT K p).2 = none
  empty : ∀ p ∈ tf, h.get? (cT K p).2 = some { cls := .none, data := .fields #[] }
  ini : ∀ d ∈ is, inW K d.cls = d.val
abbrev AlY : Type := AlD × Bool × List InW
def refsAt (g : Addr → Option Obj) (a : Addr) : List Addr := match g a with
  | some o => refsD o
  | none => []
def asZ2 (g : Addr → Option Obj) (a b c : List Addr) : List Addr := cStatics :: (a ++ (c ++ (b ++ (b.flatMap (refsAt g) ++ (b.flatMap (refsAt g)).flatMap (refsAt g)))))
/-- the module's names, what these classes' functions and these functions name -/
def asZ (g : Addr → Option Obj) (n : List Str × List Str) : List Addr :=
  asZ2 g (mainGlobals :: refsAt g mainGlobals) ((n.1.map (ga (frG g (mainGlobals :: refsAt g mainGlobals)))).flatMap (refsAt g)) ((n.2.map (ga (frG g (mainGlobals :: refsAt g mainGlobals)))).flatMap (refsAt g))
def frY (g : Addr → Option Obj) (n : List Str × List Str) : PySem.W.Frag := frT g (asZ g n)
def obsYK (fn : List DefD) (is : List InD) (tf : List Defn) (ex : PySem.W.Frag → Bool) (g : Addr → Option Obj) (K : PySem.W.Frag) : AlY := (obsD [] fn K, ex K && tabsB g tf K, is.map fun d => inW K d.cls)
def obsY (n : List Str × List Str) (fn : List DefD) (is : List InD) (tf : List Defn) (ex : PySem.W.Frag → Bool) (g : Addr → Option Obj) : AlY := obsYK fn is tf ex g (frY g n)
def valY (fn : List DefD) (is : List InD) : AlY := (valD fn, true, is.map InD.val)
theorem map_at {α β : Type} {f g : α → β} : ∀ {l : List α}, l.map f = l.map g → ∀ a ∈ l, f a = g a
  | [], _, a, h => by cases h
  | b :: l, e, a, h => by
    rw [List.map_cons, List.map_cons] at e
    obtain ⟨e1, e2⟩ := List.cons.inj e
    rcases List.mem_cons.mp h with z | z
    · rw [z]; exact e1
    · exact map_at e2 a z
theorem saysY_of {n : List Str × List Str} {fn : List DefD} {is : List InD} {tf : List Defn} {ex : PySem.W.Frag → Bool} {w : World} {h : Heap} (e : obsY n fn is tf ex h.get? = valY fn is) : SaysY fn is tf ex w h (frY h.get? n) := by
  have e1 : obsD [] fn (frY h.get? n) = valD fn := congrArg (fun z : AlY => z.1) e
  have e2 : (ex (frY h.get? n) && tabsB h.get? tf (frY h.get? n)) = true := congrArg (fun z : AlY => z.2.1) e
  have e3 : (is.map fun d => inW (frY h.get? n) d.cls) = is.map InD.val := congrArg (fun z : AlY => z.2.2) e
  obtain ⟨h1, h2⟩ := ba e2
  have key : ∀ p ∈ tf, PySem.W.codeHdIn (frY h.get? n) (cT (frY h.get? n) p).1 (cT (frY h.get? n) p).2 = true ∧ ∃ o, h.get? (cT (frY h.get? n) p).2 = some o ∧ emptyTab o = true := fun p hp => by
    obtain ⟨h3, h4⟩ := ba (List.all_eq_true.mp h2 p hp)
    refine ⟨h3, ?_⟩
    cases q : h.get? (cT (frY h.get? n) p).2 with
    | none =>
      rw [q] at h4
      cases h4
    | some o =>
      rw [q] at h4
      exact ⟨o, rfl, h4⟩
  exact ⟨e1, h1, fun p hp => (key p hp).1, fun p hp => by
    obtain ⟨_, o, q, z⟩ := key p hp
    exact frT_none q z, fun p hp => by
    obtain ⟨_, o, q, z⟩ := key p hp
    rw [q, emptyTab_eq z], map_at e3⟩
def hookY (n : List Str × List Str) (fn : List DefD) (is : List InD) (tf : List Defn) (ex : PySem.W.Frag → Bool) : PySem.W.Hook where
  α := AlY
  obs := fun s => obsY n fn is tf ex s.heap.get?
  val := fun _ => valY fn is
  says := fun w h => ∃ K : PySem.W.Frag, K.In h ∧ SaysY fn is tf ex w h K
  of := fun _ _ e => ⟨_, frT_in, saysY_of e⟩
  keeps := fun _ _ _ ⟨K, hK, c⟩ k => ⟨K, PySem.W.Frag.In.keeps hK k, ⟨c.t, c.more, c.hd, c.out, fun p hp => k _ _ (c.empty p hp), c.ini⟩⟩
theorem obsY_eq {n : List Str × List Str} {fn : List DefD} {is : List InD} {tf : List Defn} {ex : PySem.W.Frag → Bool} {g : Addr → Option Obj} {s : Shared} (h : ∀ a, g a = s.heap.get? a) : obsY n fn is tf ex g = (hookY n fn is tf ex).obs s := by
  have e : g = s.heap.get? := funext h
  rw [e] <;> rfl
end Mill

set_option Elab.async false
set_option linter.all false
set_option maxRecDepth 100000
set_option maxHeartbeats 4000000
/-! Mill28: a program's facts from the Hook. -/
namespace Mill
open PySem PySem.Spec PyProof.Rows L2 L2H HotX LamX NdefX He
theorem zip_lookup {n : Str} : ∀ {ns : List Str} {us : List Value}, us.length = ns.length → n ∈ ns → ((ns.zip us).lookup n).isSome = true
  | [], _, _, h => by cases h
  | m :: ns, [], e, _ => by cases e
  | m :: ns, u :: us, e, h => by
    show (match n == m with | true => some u | false => (ns.zip us).lookup n).isSome = true
    cases q : n == m with
    | true => rfl
    | false => 
      rcases List.mem_cons.mp h with z | z
      · rw [z] at q; simp at q
      · exact zip_lookup (by simpa using e) z
theorem fm_congr {α β : Type} {f g : α → Option β} : ∀ {l : List α}, (∀ a ∈ l, f a = g a) → l.filterMap f = l.filterMap g
  | [], _ => rfl
  | a :: l, h => by rw [List.filterMap_cons, List.filterMap_cons, h a List.mem_cons_self, fm_congr fun b hb => h b (List.mem_cons_of_mem _ hb)]
theorem zip_filter : ∀ {ns : List Str} {us : List Value}, us.length = ns.length → ns.Nodup → (ns.filterMap fun n => ((ns.zip us).lookup n).map (n, ·)) = ns.zip us
  | [], us, e, _ => by cases us <;> first | rfl | cases e
  | m :: ns, [], e, _ => by cases e
  | m :: ns, u :: us, e, nd => by
    have nd2 := List.nodup_cons.mp nd
    have ih := zip_filter (ns := ns) (us := us) (by simpa using e) nd2.2
    rw [List.filterMap_cons]
    have h1 : ((((m :: ns).zip (u :: us)).lookup m).map (m, ·)) = some (m, u) := by simp [List.lookup]
    rw [h1]
    show (m, u) :: _ = (m, u) :: _
    refine congrArg _ ?_
    refine Eq.trans ?_ ih
    refine fm_congr fun n hn => ?_
    have hne : (n == m) = false := by
      cases q : n == m with
      | false => rfl
      | true => exact absurd (beq_iff_eq.mp q ▸ hn) nd2.1
    show (match n == m with | true => some u | false => (ns.zip us).lookup n).map (n, ·) = _
    rw [hne]
theorem bind_plain {fd : FuncData} {as : List Arg} {dfl : List Expr} {us : List Value} (hp : fd.params = ⟨[], as, none, [], [], none, dfl⟩) (hd : fd.defaults = .none) (nd : (as.map (·.arg)).Nodup) (hl : us.length = as.length) : bindArgs fd ⟨us, []⟩ = pure ((as.map (·.arg)).zip us) := by
  have hl2 : us.length = (as.map (·.arg)).length := by rw [hl, List.length_map]
  have hz := zip_filter hl2 nd
  have hm : ((as.map (·.arg)).filter fun n => (((as.map (·.arg)).zip us).lookup n).isNone) = [] := by
    rw [List.filter_eq_nil_iff]
    intro n hn
    have := zip_lookup hl2 hn
    cases q : ((as.map (·.arg)).zip us).lookup n with
    | none => rw [q] at this; cases this
    | some v => simp
  obtain ⟨n1, n2, n3, n4, n5, n6, n7, n8, n9, n10, n11, n12, n13, n14, n15⟩ := fd
  dsimp only at hp hd
  subst hp hd
  unfold bindArgs
  simp only [List.map_nil, List.nil_append, List.append_nil]
  have e1 : seqItems? (.none : Value) = pure none := by rfl
  rw [e1]
  simp only [pure_bind, List.forIn_nil, Option.getD_none]
  generalize hN : as.map (·.arg) = N at *
  have hgt : ¬ (us.length > N.length) := by omega
  have hmt : (N.filter fun n => ((N.zip us).lookup n).isNone) = [] := hm
  simp only [List.drop_nil, List.length_nil, Nat.sub_zero, List.take_length, List.drop_length, hmt, List.isEmpty_nil, Bool.not_true, List.zip_nil_right, List.forIn_nil, pure_bind, hz, decide_eq_false hgt, Bool.false_and, if_false, Bool.false_eq_true]

theorem loop_same {l : List (Str × Value)} {s : List (Str × Value)} (h : ∀ x ∈ l, (s.lookup x.1).isSome = true) : (forIn l s fun (x : Str × Value) (r : List (Str × Value)) => (if (r.lookup x.1).isNone = true then pure (ForInStep.yield (r ++ [(x.1, x.2)])) else pure (ForInStep.yield r) : Sem (ForInStep (List (Str × Value))))) = pure s := by
  induction l with
  | nil => rfl
  | cons a l ih =>
    have h1 := h a List.mem_cons_self
    have h2 : ¬ ((s.lookup a.1).isNone = true) := by
      cases q : s.lookup a.1 with
      | none => rw [q] at h1; cases h1
      | some v => simp
    rw [List.forIn_cons, if_neg h2, pure_bind]
    exact ih fun x hx => h x (List.mem_cons_of_mem _ hx)
theorem bind_dfl {fd : FuncData} {as : List Arg} {dfl : List Expr} {us : List Value} {T : Addr} (hp : fd.params = ⟨[], as, none, [], [], none, dfl⟩) (hd : fd.defaults = .ref T) (nd : (as.map (·.arg)).Nodup) (hl : us.length = as.length) :
    ∃ k, bindArgs fd ⟨us, []⟩ = seqItems? (.ref T) >>= k ∧ ∀ its, k (some its) = pure ((as.map (·.arg)).zip us) := by
  have hl2 : us.length = (as.map (·.arg)).length := by rw [hl, List.length_map]
  have hz := zip_filter hl2 nd
  have hm : ∀ l : List Str, (∀ n ∈ l, n ∈ as.map (·.arg)) → (l.filter fun n => (((as.map (·.arg)).zip us).lookup n).isNone) = [] := fun l hsub => by
    rw [List.filter_eq_nil_iff]
    intro n hn
    have := zip_lookup hl2 (hsub n hn)
    cases q : ((as.map (·.arg)).zip us).lookup n with
    | none => rw [q] at this; cases this
    | some v => simp
  obtain ⟨n1, n2, n3, n4, n5, n6, n7, n8, n9, n10, n11, n12, n13, n14, n15⟩ := fd
  dsimp only at hp hd
  subst hp hd
  unfold bindArgs
  simp only [List.map_nil, List.nil_append, List.append_nil, pure_bind, List.forIn_nil]
  refine ⟨_, rfl, fun its => ?_⟩
  generalize hN : as.map (·.arg) = N at *
  have hgt : ¬ (us.length > N.length) := by omega
  have hlp : ∀ (a : Nat) (xs : List Value), ∀ x ∈ (N.drop a).zip xs, ((N.zip us).lookup x.1).isSome = true := fun a xs x hx => zip_lookup hl2 (List.mem_of_mem_drop (List.of_mem_zip (a := x.1) (b := x.2) hx).1)
  simp only [List.length_nil, hm _ (fun n hn => List.mem_of_mem_take hn), List.isEmpty_nil, Bool.not_true, pure_bind, decide_eq_false hgt, Bool.false_and, if_false, Bool.false_eq_true, Option.getD_some, loop_same (hlp _ _), hz]
theorem bind_all {K : PySem.W.Frag} {fd : FuncData} {as : List Arg} {dfl : List Expr} (hp : fd.params = ⟨[], as, none, [], [], none, dfl⟩) (hd : dflOk K fd.defaults = true) (nd : (as.map (·.arg)).Nodup) : L2.Binds K fd (as.map (·.arg)) [] := by
  intro s us X hl
  rw [List.append_nil] at hl ⊢
  rw [List.length_map] at hl
  unfold dflOk at hd
  split at hd
  · rename_i e
    exact .of_eq (bind_plain hp e nd hl)
  · rename_i T e
    split at hd
    · rename_i o1 o2 its n sl lk
      obtain ⟨k, e1, e2⟩ := bind_dfl hp e nd hl
      refine BindsTo.of_looks fun M => ?_
      rw [e1]
      exact looks_items X lk rfl (.of_pure (e2 its))
    · cases hd
  · cases hd
/-! ### the text -/
structure DefM where
  d : DefD
  N : List Str
def fscB (N ps : List Str) (sc : Scope) : Bool := decide (sc.kind = .function) && !sc.isCoroutine && !sc.isGenerator && decide N.Nodup && decide (N.take ps.length = ps) && (ps.all fun x => decide (sc.names.lookup x = some .local) || decide (sc.names.lookup x = some .cell)) && sc.names.all fun y => !decide (y.2 = .free)
theorem fscB_ok {N ps : List Str} {sc : Scope} (h : fscB N ps sc = true) : FnScope N ps sc := by
  unfold fscB at h
  simp only [Bool.and_eq_true, Bool.or_eq_true, Bool.not_eq_true', decide_eq_true_eq, decide_eq_false_iff_not, List.all_eq_true] at h
  obtain ⟨⟨⟨⟨⟨⟨h1, h2⟩, h3⟩, h4⟩, h5⟩, h6⟩, h7⟩ := h
  exact ⟨h1, h2, h3, h4, h5, h6, h7⟩
def fnOfM (fns excs : List Str) (m : DefM) : Option Fn := match parNames m.d.params, ofSs (ofZip m.N fns m.d.scope) (ofS m.N fns excs m.d.scope 60) m.d.body with
  | some ps, some b => if fscB m.N ps m.d.scope = true ∧ ps.Nodup then some ⟨ps.length, m.N.length, b⟩ else none
  | _, _ => none
def pgOf (fns excs : List Str) (ms : List DefM) (consts : List (Str × D)) : Prog := ⟨fun x => (ms.find? fun m => m.d.name == x).bind (fnOfM fns excs), fun x => consts.lookup x⟩
def atB (d : DefD) : Bool := decide (d.at_ = (d.name, none)) && decide (d.qual = d.name) && d.dfl.isEmpty && d.kwd.isEmpty
def constB (K : PySem.W.Frag) (p : Str × D) : Bool := match p.2 with
  | .int i => (Fa.int p.1 i).ok K
  | .str z => (Fa.str p.1 z).ok K
  | _ => false
theorem constB_ok {K : PySem.W.Frag} {h : Heap} {mg : Str → Option Value} (X : K.In h) (G : h.Ns mainGlobals mg) {p : Str × D} (c : constB K p = true) : ∃ u v, mg p.1 = some u ∧ RelV v u ∧ ∀ m H, Rep K m H p.2 v := by
  obtain ⟨x, d⟩ := p
  unfold constB at c
  cases d with
  | int i =>
    obtain ⟨t, e⟩ := int_ok X G c
    exact ⟨_, .int i, e, ⟨t, rfl⟩, fun _ _ => .int i⟩
  | str z =>
    obtain ⟨t, e⟩ := str_ok X G c
    exact ⟨_, .str z, e, ⟨t, rfl⟩, fun _ _ => .str z⟩
  | _ => cases c
theorem funD_def {K : PySem.W.Frag} {d : DefD} {fd : FuncData} {f : Addr} {ps : List Str} (F : FunD K d.name d.qual d.params d.body d.scope (d.dvs K) (d.kws K) f fd) (h : atB d = true) (hp : parNames d.params = some ps) (nd : ps.Nodup) :
    ∃ (kV doc pm cdv ct oc : Value) (an od : Option Addr) (osl : Array (Option Value)), fd = PySem.W.fnOf d.name d.name d.params d.body d.scope .none kV doc pm an cdv ct ∧ K.lookup f = some ⟨oc, od, .func fd, osl⟩ ∧ PySem.W.codeIn K cdv d.name = true ∧ L2.Binds K fd ps [] ∧
      ∀ (s : Shared) (us : List Value), us.length = ps.length → BindsTo s fd ⟨us, []⟩ (ps.zip us) := by
  unfold atB at h
  simp only [Bool.and_eq_true, decide_eq_true_eq, List.isEmpty_iff] at h
  obtain ⟨⟨⟨h1, h2⟩, h3⟩, h4⟩ := h
  obtain ⟨oc, od, dV, kV, doc, pm, an, cdv, ct, osl, rfl, lk, hcd, hD, hK⟩ := F.ex
  have e : d.dvs K = [] := by unfold DefD.dvs; rw [h3]; rfl
  have ed : dV = .none := by
    rw [e] at hD
    rcases hD with ⟨_, z⟩ | ⟨z, _⟩
    · exact z
    · exact absurd rfl z
  subst ed
  obtain ⟨as, ha, rfl⟩ := parNames_ok hp
  have hb : ∀ us : List Value, us.length = (as.map (·.arg)).length → bindArgs (PySem.W.fnOf d.name d.qual d.params d.body d.scope .none kV doc pm an cdv ct) ⟨us, []⟩ = pure ((as.map (·.arg)).zip us) := fun us hl => bind_plain ha rfl nd (by rw [hl, List.length_map])
  have r : PySem.W.fnOf d.name d.qual d.params d.body d.scope .none kV doc pm an cdv ct = PySem.W.fnOf d.name d.name d.params d.body d.scope .none kV doc pm an cdv ct := by rw [h2]
  exact ⟨kV, doc, pm, cdv, ct, oc, an, od, osl, r, lk, by rw [← h2]; exact hcd, .all hb, fun s us hl => .of_eq (hb us hl)⟩
theorem atB_at {K : PySem.W.Frag} {d : DefD} (h : atB d = true) : fAd K d.at_ = ga K d.name := by
  unfold atB at h
  simp only [Bool.and_eq_true, decide_eq_true_eq, List.isEmpty_iff] at h
  rw [h.1.1.1]; rfl
/-! ### the classes' text -/
def leafT (b : List Stmt) : Option Str := match b with
  | [.Expr (.Call (.Attribute (.Call (.Name s _) [] [] _) m apos) [.Name w _, .Constant (.str n) _ _] [] cpos) _] => if s = "super" ∧ m = "__init__" ∧ w = "what" ∧ (apos.endLine == cpos.line) = true then some n else none
  | _ => none
theorem leafT_ok {b : List Stmt} {n : Str} (h : leafT b = some n) : ∃ p0 p1 apos q1 q2 cpos epos j, b = [.Expr (.Call (.Attribute (.Call (.Name "super" p0) [] [] p1) "__init__" apos) [.Name "what" q1, .Constant (.str n) j q2] [] cpos) epos] ∧ (apos.endLine == cpos.line) = true := by
  unfold leafT at h
  split at h
  · split at h
    · rename_i hc
      obtain ⟨rfl, rfl, rfl, hl⟩ := hc
      cases h
      exact ⟨_, _, _, _, _, _, _, _, rfl, hl⟩
    · cases h
  · cases h
def baseT (b : List Stmt) : Bool := match b with
  | [.Expr (.Call (.Attribute (.Call (.Name s _) [] [] _) m apos) [.Name w _] [] cpos) _, .Assign [.Attribute (.Name s2 _) w2 _] (.Name w3 _) _, .Assign [.Attribute (.Name s4 _) w4 _] (.Name w5 _) _] => decide (s = "super" ∧ m = "__init__" ∧ w = "what" ∧ s2 = "self" ∧ w2 = "what" ∧ w3 = "what" ∧ s4 = "self" ∧ w4 = "word" ∧ w5 = "word") && (apos.endLine == cpos.line)
  | _ => false
theorem baseT_ok {b : List Stmt} (h : baseT b = true) : ∃ p0 p1 apos q1 cpos epos a1 a2 a3 a4 b1 b2 b3 b4, b = [.Expr (.Call (.Attribute (.Call (.Name "super" p0) [] [] p1) "__init__" apos) [.Name "what" q1] [] cpos) epos, .Assign [.Attribute (.Name "self" a1) "what" a2] (.Name "what" a3) a4, .Assign [.Attribute (.Name "self" b1) "word" b2] (.Name "word" b3) b4] ∧ (apos.endLine == cpos.line) = true := by
  unfold baseT at h
  split at h
  · obtain ⟨h1, h2⟩ := ba h
    obtain ⟨rfl, rfl, rfl, rfl, rfl, rfl, rfl, rfl, rfl⟩ := of_decide_eq_true h1
    exact ⟨_, _, _, _, _, _, _, _, _, _, _, _, _, _, rfl, h2⟩
  · cases h
def iniB (d : InD) (ps : List Str) : Bool := decide (parNamesD d.params = some ps) && nscB (ps ++ [("__class__" : Str)]) ps [("__class__" : Str)] d.scope && decide (d.scope.names.lookup ("super" : Str) = some .globalImplicit)
theorem iniB_ok {d : InD} {ps : List Str} (h : iniB d ps = true) : parNamesD d.params = some ps ∧ NScope (ps ++ [("__class__" : Str)]) ps [("__class__" : Str)] d.scope ∧ d.scope.names.lookup ("super" : Str) = some .globalImplicit := by
  obtain ⟨h1, h3⟩ := ba h
  obtain ⟨h1, h2⟩ := ba h1
  exact ⟨of_decide_eq_true h1, nscope_by h2, of_decide_eq_true h3⟩
structure HeardT (d : DefD) : Prop where
  ok : ∃ (dn r ln : Str) (scope : Scope) (j0 k0 kk j1 j2 j3 : Nat) (q0 q1 q2 q3 q4 q5 q6 q7 p0 p1 p2 p3 p4 p5 p6 p7 p8 p9 pa pb pc pd pe pu pv pw : Pos),
    d.body = heardBody dn "Refused" r ln scope j0 k0 kk j1 j2 j3 q0 q1 q2 q3 q4 q5 q6 q7 p0 p1 p2 p3 p4 p5 p6 p7 p8 p9 pa pb pc pd pe pu pv pw ∧ parNames d.params = some [dn] ∧
    fscB [dn, r, ln] [dn] d.scope = true ∧ d.scope.names.lookup ("Refused" : Str) = some .globalImplicit ∧ okName dn = true ∧ d.scope.names.lookup r = some .local ∧ okName r = true ∧ scope.names.lookup ln = some .local ∧ okName ln = true ∧
    d.scope.names.lookup ("_law_classes" : Str) = some .globalImplicit ∧ blkC [dn, r, ln] d.scope scope [(ln, 2)] = true ∧ (p1.endLine == p9.line) = true
structure ClsT (d : DefD) (ns : List Str) : Prop where
  ok : ∃ (r : Str) (elts : List Expr) (lp rp : Pos), d.body = [.Return (some (.List elts lp)) rp] ∧ parNames d.params = some [r] ∧ fscB [r] [r] d.scope = true ∧ okName r = true ∧ d.scope.names.lookup ("isinstance" : Str) = some .globalImplicit ∧ clsAll r d.scope elts = some ns ∧ elts.length ≤ 1000
structure TextOk (P : Program) (fns excs ns tf : List Str) (ms : List DefM) (is : List InD) (dH dC : DefD) : Prop where
  fnsOk : (fns.all fun x => ((pgOf fns excs ms []).fn x).isSome) = true
  ats : (ms.all fun m => atB m.d) = true
  hAt : atB dH = true
  hNm : dH.name = "_law_heard"
  cAt : atB dC = true
  cNm : dC.name = "_law_classes"
  heard : HeardT dH
  cls : ClsT dC ns
  top : (P.main.scope.names.lookup ("super" : Str)).isSome = false
  leafs : (excs.all fun c => is.any fun d => d.cls == c && ((leafT d.body).isSome && iniB d ["self", "what"])) = true
  base : (is.any fun d => d.cls == "Refused" && (baseT d.body && iniB d ["self", "what", "word"])) = true
  nsd : ns.Nodup
  nsl : ns.length ≤ 1000
  exns : (excs.all fun c => decide (c ∈ ns) && decide (c.length ≤ 1000)) = true
  lam : (ms.all fun m => !decide (m.d.scope.names.lookup ("_law_heard" : Str) = some .globalImplicit) || decide (m.d.name ∈ tf)) = true
/-! ### the module's objects -/
def freeNs : List Str := ["int", "len", "max", "min", "tuple", "list", "str", "all", "any", "range", "enumerate", "zip", "isinstance", "bool", "super"]
def leafK (K : PySem.W.Frag) (file0 : Str) (ns : List Str) (c : Str) : Bool :=
  supB K file0 c && (oexB K (ga K c) && (xfB K (ga K c) && (excB K (ga K c) && (eqO (PySem.W.findIn K (.ref (ga K c)) "what") (some none) && (eqO (PySem.W.findIn K (.ref (ga K c)) "word") (some none) &&
  (decide (PySem.W.mroIn K (ga K c) (.ref (ga K "Refused")) = some true) && (decide (PySem.W.mroIn K (ga K c) (.ref (ga K c)) = some true) && (eqO (PySem.W.ks_superIn K (ga K c) (ga K c) "__init__") (some (some (.ref (inA K "Refused")))) &&
  (eqO (PySem.W.ks_superIn K (ga K c) (ga K "Refused") "__init__") (some (some (.builtin "ValueError.__init__"))) && (decide (PySem.W.subIn K (.ref (ga K c)) (.type "ValueError") = some true) && (decide (PySem.W.exmOne K (.ref (ga K c)) (.ref (ga K "Refused")) = some true) &&
  ns.all fun n => decide (PySem.W.kitOne K (.ref (ga K c)) (.ref (ga K n)) = some (decide (n = c))))))))))))))
def tabAt (K : PySem.W.Frag) (x : Str) : Addr := (cT K (x, none)).2
def exK (file0 : Str) (fns excs ns tf : List Str) (consts : List (Str × D)) (K : PySem.W.Frag) : Bool :=
  (freeNs.all fun x => (Fa.free x).ok K) && ((fns.all fun x => (Fa.glo x).ok K) && ((["_law_heard", "_law_classes", "Refused"] : List Str).all (fun x => (Fa.glo x).ok K) && ((ns.all fun x => (Fa.glo x).ok K) && ((consts.all fun p => constB K p) &&
  (eqO (PySem.W.nsIn K cStatics "thirdparty.any") (some none) && (supB K file0 "Refused" && ((excs.all fun c => leafK K file0 ns c) && decide (tf.map (tabAt K)).Nodup)))))))
def tabsOf (K : PySem.W.Frag) (tf : List Str) : List (Addr × Str) := tf.map fun x => (tabAt K x, x ++ ".<locals>." ++ "<lambda>")
def wdOf (K : PySem.W.Frag) (tf : List Str) : Wd := ⟨K, tabsOf K tf, ga K⟩
theorem nodup_map_inj {α β : Type} {f : α → β} : ∀ {l : List α}, (l.map f).Nodup → ∀ a ∈ l, ∀ b ∈ l, f a = f b → a = b
  | [], _, a, h, _, _, _ => by cases h
  | x :: l, nd, a, ha, b, hb, e => by
    rw [List.map_cons] at nd
    have n2 := List.nodup_cons.mp nd
    rcases List.mem_cons.mp ha with z | z <;> rcases List.mem_cons.mp hb with y | y
    · rw [z, y]
    · exact absurd (List.mem_map.mpr ⟨b, y, by rw [← e, z]⟩) n2.1
    · exact absurd (List.mem_map.mpr ⟨a, z, by rw [e, y]⟩) n2.1
    · exact nodup_map_inj n2.2 a z b y e
section
variable {P : Program} {w : World} {K : PySem.W.Frag} {h base : Heap} {mg : Str → Option Value} {fns excs ns tf : List Str} {ms : List DefM} {is : List InD} {dH dC : DefD} {consts : List (Str × D)}
def fnDs (ms : List DefM) (dH dC : DefD) : List DefD := ms.map (·.d) ++ [dH, dC]
abbrev Says (P : Program) (w : World) (h : Heap) (K : PySem.W.Frag) (fns excs ns tf : List Str) (ms : List DefM) (is : List InD) (dH dC : DefD) (consts : List (Str × D)) : Prop := SaysY (fnDs ms dH dC) is (tf.map fun x => (x, none)) (exK P.main.file fns excs ns tf consts) w h K
theorem fn_find {x : Str} {consts : List (Str × D)} {fn : Fn} (h : (pgOf fns excs ms consts).fn x = some fn) : ∃ m ∈ ms, m.d.name = x ∧ fnOfM fns excs m = some fn := by
  replace h : ((ms.find? fun m => m.d.name == x).bind (fnOfM fns excs)) = some fn := h
  cases e : ms.find? fun m => m.d.name == x with
  | none => rw [e] at h; cases h
  | some m =>
    rw [e] at h
    exact ⟨m, List.mem_of_find?_eq_some e, beq_iff_eq.mp (List.find?_some (p := fun m : DefM => m.d.name == x) e), h⟩
theorem def_at (T : TextOk P fns excs ns tf ms is dH dC) (c : Says P w h K fns excs ns tf ms is dH dC consts) (X : K.In base) (G : base.Ns mainGlobals mg) (TB : ∀ x ∈ tf, TabB base mg (cT K (x, none)).1 (cT K (x, none)).2) {x : Str} (hx : x ∈ fns) :
    ∃ fn, (pgOf fns excs ms consts).fn x = some fn ∧ DefK K mg base (tabsOf K tf) fns excs x fn := by
  obtain ⟨fn, hfn⟩ := Option.isSome_iff_exists.mp (List.all_eq_true.mp T.fnsOk x hx)
  refine ⟨fn, hfn, ?_⟩
  obtain ⟨m, hm, rfl, hf⟩ := fn_find hfn
  have hat := List.all_eq_true.mp T.ats m hm
  have hex := c.more
  unfold exK at hex
  obtain ⟨x1, hex⟩ := ba hex
  obtain ⟨x2, hex⟩ := ba hex
  obtain ⟨x3, hex⟩ := ba hex
  obtain ⟨x4, hex⟩ := ba hex
  obtain ⟨x5, hex⟩ := ba hex
  obtain ⟨x6, hex⟩ := ba hex
  obtain ⟨x7, hex⟩ := ba hex
  obtain ⟨x8, x9⟩ := ba hex
  have hmg := glo_ok X G (List.all_eq_true.mp x2 _ hx)
  obtain ⟨fd, F⟩ := SaysD.defs c.t (d := m.d) (List.mem_append_left _ (List.mem_map.mpr ⟨m, hm, rfl⟩))
  rw [atB_at hat] at F
  unfold fnOfM at hf
  split at hf
  · rename_i ps b e1 e2
    split at hf
    · rename_i hS
      cases hf
      obtain ⟨kV, doc, pm, cdv, ct, oc, an, od, osl, rfl, lk, hcd, hb, _⟩ := funD_def F hat e1 hS.2
      refine ⟨ga K m.d.name, m.N, ps, m.d.params, m.d.body, m.d.scope, .none, kV, doc, pm, cdv, ct, oc, an, od, osl, 60, hmg, F.kp, lk, hcd, hb, fscB_ok hS.1, e2, rfl, rfl, fun hl => ?_⟩
      have hlam := List.all_eq_true.mp T.lam m hm
      rw [hl] at hlam
      have htf : m.d.name ∈ tf := by simpa using hlam
      obtain ⟨c0, rfl⟩ := codeIn_ref hcd
      have ec : codeOf K (m.d.name, none) = c0 := codeOf_eq (fd := PySem.W.fnOf m.d.name m.d.name m.d.params m.d.body m.d.scope .none kV doc pm an (.ref c0) ct) lk rfl
      refine ⟨c0, tabAt K m.d.name, rfl, ?_, List.mem_map.mpr ⟨_, htf, rfl⟩, fun p hp e => ?_⟩
      · have := TB _ htf
        rw [← ec]
        exact this
      · obtain ⟨y, hy, rfl⟩ := List.mem_map.mp hp
        have := nodup_map_inj (of_decide_eq_true x9) y hy m.d.name htf e
        rw [this]
    · cases hf
  · cases hf
end
end Mill

set_option Elab.async false
set_option linter.all false
set_option maxRecDepth 100000
set_option maxHeartbeats 4000000
/-! Mill29: a program's facts, put together. -/
namespace Mill
open PySem PySem.Spec PyProof.Rows L2 L2H HotX LamX NdefX He
structure ExK (K : PySem.W.Frag) (file0 : Str) (fns excs ns tf : List Str) (consts : List (Str × D)) : Prop where
  free : ∀ x ∈ freeNs, (Fa.free x).ok K = true
  glo : ∀ x ∈ fns, (Fa.glo x).ok K = true
  glo3 : ∀ x ∈ (["_law_heard", "_law_classes", "Refused"] : List Str), (Fa.glo x).ok K = true
  gloN : ∀ x ∈ ns, (Fa.glo x).ok K = true
  cst : ∀ p ∈ consts, constB K p = true
  stat : PySem.W.nsIn K cStatics "thirdparty.any" = some none
  sup : supB K file0 "Refused" = true
  leaf : ∀ c ∈ excs, leafK K file0 ns c = true
  nd : (tf.map (tabAt K)).Nodup
theorem exK_ok {K : PySem.W.Frag} {file0 : Str} {fns excs ns tf : List Str} {consts : List (Str × D)} (hex : exK file0 fns excs ns tf consts K = true) : ExK K file0 fns excs ns tf consts := by
  unfold exK at hex
  obtain ⟨x1, hex⟩ := ba hex
  obtain ⟨x2, hex⟩ := ba hex
  obtain ⟨x3, hex⟩ := ba hex
  obtain ⟨x4, hex⟩ := ba hex
  obtain ⟨x5, hex⟩ := ba hex
  obtain ⟨x6, hex⟩ := ba hex
  obtain ⟨x7, hex⟩ := ba hex
  obtain ⟨x8, x9⟩ := ba hex
  exact ⟨fun x hx => List.all_eq_true.mp x1 x hx, fun x hx => List.all_eq_true.mp x2 x hx, fun x hx => List.all_eq_true.mp x3 x hx, fun x hx => List.all_eq_true.mp x4 x hx, fun x hx => List.all_eq_true.mp x5 x hx, eqO_ok x6, x7, fun x hx => List.all_eq_true.mp x8 x hx, of_decide_eq_true x9⟩
structure LeafK (K : PySem.W.Frag) (file0 : Str) (ns : List Str) (c : Str) : Prop where
  sup : supB K file0 c = true
  oex : OexC K (ga K c)
  xf : XfC K (ga K c)
  exc : ExcC K (ga K c)
  no1 : PySem.W.findIn K (.ref (ga K c)) "what" = some none
  no2 : PySem.W.findIn K (.ref (ga K c)) "word" = some none
  m1 : PySem.W.mroIn K (ga K c) (.ref (ga K "Refused")) = some true
  m2 : PySem.W.mroIn K (ga K c) (.ref (ga K c)) = some true
  s1 : PySem.W.ks_superIn K (ga K c) (ga K c) "__init__" = some (some (.ref (inA K "Refused")))
  s2 : PySem.W.ks_superIn K (ga K c) (ga K "Refused") "__init__" = some (some (.builtin "ValueError.__init__"))
  ve : PySem.W.subIn K (.ref (ga K c)) (.type "ValueError") = some true
  exm : PySem.W.exmOne K (.ref (ga K c)) (.ref (ga K "Refused")) = some true
  kit : ∀ n ∈ ns, PySem.W.kitOne K (.ref (ga K c)) (.ref (ga K n)) = some (decide (n = c))
theorem leafK_ok {K : PySem.W.Frag} {file0 : Str} {ns : List Str} {c : Str} (h : leafK K file0 ns c = true) : LeafK K file0 ns c := by
  unfold leafK at h
  obtain ⟨x1, h⟩ := ba h
  obtain ⟨x2, h⟩ := ba h
  obtain ⟨x3, h⟩ := ba h
  obtain ⟨x4, h⟩ := ba h
  obtain ⟨x5, h⟩ := ba h
  obtain ⟨x6, h⟩ := ba h
  obtain ⟨x7, h⟩ := ba h
  obtain ⟨x8, h⟩ := ba h
  obtain ⟨x9, h⟩ := ba h
  obtain ⟨x10, h⟩ := ba h
  obtain ⟨x11, h⟩ := ba h
  obtain ⟨x12, x13⟩ := ba h
  exact ⟨x1, oexB_ok x2, xfB_ok x3, excB_ok x4, eqO_ok x5, eqO_ok x6, of_decide_eq_true x7, of_decide_eq_true x8, eqO_ok x9, eqO_ok x10, of_decide_eq_true x11, of_decide_eq_true x12, fun n hn => of_decide_eq_true (List.all_eq_true.mp x13 n hn)⟩
section
variable {P : Program} {w : World} {K : PySem.W.Frag} {h base : Heap} {mg : Str → Option Value} {fns excs ns tf : List Str} {ms : List DefM} {is : List InD} {dH dC : DefD} {consts : List (Str × D)}
theorem par2 {a : Arguments} {x y : Str} {r : List Str} (h : parNamesD a = some (x :: r)) : ∃ a0 as dfl, a = ⟨[], a0 :: as, none, [], [], none, dfl⟩ ∧ a0.arg = x ∧ as.map (·.arg) = r := by
  obtain ⟨as, dfl, e, e2⟩ := parNamesD_ok h
  cases as with
  | nil => cases e2
  | cons a0 as =>
    rw [List.map_cons] at e2
    obtain ⟨e3, e4⟩ := List.cons.inj e2
    exact ⟨a0, as, dfl, e, e3.symm, e4.symm⟩
theorem ini_at {x : Str} {d : InD} {r : List Str} (top : (P.main.scope.names.lookup ("super" : Str)).isSome = false) (E : ExK K P.main.file fns excs ns tf consts) (X : K.In base) (G : base.Ns mainGlobals mg) (hx : d.cls = x) (e : inW K x = d.val) (hs : supB K P.main.file x = true) (hi : iniB d (("self" : Str) :: r) = true) :
    PySem.W.findIn K (.ref (ga K x)) "__init__" = some (some (.ref (inA K x))) ∧ PySem.W.fnIn K (inA K x) = true ∧ PySem.W.typeIn K (.ref (inA K x)) = some (.type "function") ∧ NScope ((("self" : Str) :: r) ++ [("__class__" : Str)]) (("self" : Str) :: r) [("__class__" : Str)] d.scope ∧
    ∃ (F : NF) (fd : FuncData) (cc : Addr), F.body = d.body ∧ F.scope = d.scope ∧ SupC P K mg (inA K x) F fd cc (ga K x) "self" ∧ L2.Binds K fd (("self" : Str) :: r) [] := by
  obtain ⟨i1, i2, i3⟩ := iniB_ok hi
  obtain ⟨a0, as, dfl, p1, p2, p3⟩ := par2 (y := "self") i1
  have nd : (("self" : Str) :: r).Nodup := by
    have := i2.nd
    exact (List.nodup_append.mp this).1
  obtain ⟨s1, s2, s3, F, fd, cc, f1, f2, f3, f4, T⟩ := supB_ok (P := P) (mg := mg) hx e hs p1 p2 top (free_ok X G (E.free "super" (by decide))) E.stat i3 (i2.frk _ (by simp)) (i2.par _ (by simp))
  refine ⟨s1, s2, s3, i2, F, fd, cc, f1, f2, T, ?_⟩
  have := bind_all (K := K) (fd := fd) (f3.trans p1) f4 (by rw [List.map_cons, p2, p3]; exact nd)
  rw [List.map_cons, p2, p3] at this
  exact this
theorem mk_at (T : TextOk P fns excs ns tf ms is dH dC) (c : Says P w h K fns excs ns tf ms is dH dC consts) (X : K.In base) (G : base.Ns mainGlobals mg) {x : Str} (hx : x ∈ excs) : MkK P w K mg base (ga K) x := by
  have E := exK_ok c.more
  have L := leafK_ok (E.leaf x hx)
  obtain ⟨d, hd, h1⟩ := List.any_eq_true.mp (List.all_eq_true.mp T.leafs x hx)
  obtain ⟨h1, h2⟩ := ba h1
  obtain ⟨h2, h3⟩ := ba h2
  have h1 : d.cls = x := beq_iff_eq.mp h1
  obtain ⟨n, h2⟩ := Option.isSome_iff_exists.mp h2
  obtain ⟨p0, p1, apos, q1, q2, cpos, epos, j, hb, hl⟩ := leafT_ok h2
  obtain ⟨dR, hdR, g1⟩ := List.any_eq_true.mp T.base
  obtain ⟨g1, g2⟩ := ba g1
  obtain ⟨g2, g3⟩ := ba g2
  have g1 : dR.cls = "Refused" := beq_iff_eq.mp g1
  obtain ⟨r0, r1, rapos, rq1, rcpos, repos, a1, a2, a3, a4, b1, b2, b3, b4, rb, rl⟩ := baseT_ok g2
  obtain ⟨s1, s2, s3, S, F, fd, cc, f1, f2, SC, B⟩ := ini_at (mg := mg) T.top E X G h1 (by rw [← h1]; exact c.ini d hd) L.sup h3
  obtain ⟨t1, t2, t3, S', F', fd', cc', f1', f2', SC', B'⟩ := ini_at (mg := mg) T.top E X G g1 (by rw [← g1]; exact c.ini dR hdR) E.sup g3
  have xn := T.exns
  have hxn := List.all_eq_true.mp T.exns x hx
  obtain ⟨hm, _⟩ := ba hxn
  have hmg := glo_ok X G (E.gloN x (of_decide_eq_true hm))
  have FR : FnOk P w K mg base CXn 1 (inA K "Refused") fd' ["self", "what", "word"] (spR (ga K x)) := refused_ok (k := 0) SC' (by rw [f2']; exact S') (by rw [f1', rb]) L.oex L.m1 L.s2 L.ve L.no1 L.no2 rl
  have FL : FnOk P w K mg base CXn 2 (inA K x) fd ["self", "what"] (spL (ga K x) n) := leaf_ok (k := 1) SC (by rw [f2]; exact S) (by rw [f1, hb]) FR B' L.m2 L.s1 t3 t2 hl
  exact ⟨ga K x, inA K x, n, fd, L.oex, s1, s3, FL.mono (by decide), B, hmg, rfl⟩
theorem heard_at (T : TextOk P fns excs ns tf ms is dH dC) (c : Says P w h K fns excs ns tf ms is dH dC consts) (X : K.In base) (G : base.Ns mainGlobals mg) : HeardDef K mg (ga K) excs := by
  have E := exK_ok c.more
  obtain ⟨fd, F⟩ := SaysD.defs c.t (d := dH) (List.mem_append_right _ (by simp))
  rw [atB_at T.hAt, T.hNm] at F
  obtain ⟨dn, r, ln, scope, j0, k0, kz, j1, j2, j3, q0, q1, q2, q3, q4, q5, q6, q7, p0, p1, p2, p3, p4, p5, p6, p7, p8, p9, pa, pb, pc, pd, pe, pu, pv, pw, f1, f2, f3, f4, f5, f6, f7, f8, f9, f10, f11, f12⟩ := T.heard.ok
  have F2 : FunD K dH.name dH.qual dH.params dH.body dH.scope (dH.dvs K) (dH.kws K) (ga K "_law_heard") fd := by rw [T.hNm]; exact F
  obtain ⟨kV, doc, pm, cdv, ct, oc, an, od, osl, rfl, lk, hcd, hb, _⟩ := funD_def F2 T.hAt f2 (by simp)
  rw [T.hNm, f1] at lk hb
  rw [T.hNm] at hcd
  exact ⟨ga K "_law_heard", ga K "Refused", dn, "Refused", r, ln, dH.scope, scope, dH.params, .none, kV, doc, pm, cdv, ct, oc, an, od, osl, j0, k0, kz, j1, j2, j3, q0, q1, q2, q3, q4, q5, q6, q7, p0, p1, p2, p3, p4, p5, p6, p7, p8, p9, pa, pb, pc, pd, pe, pu, pv, pw,
    glo_ok X G (E.glo3 _ (by simp)), F2.kp, lk, hcd, hb, fscB_ok f3, f4, glo_ok X G (E.glo3 _ (by simp)), by decide +kernel, f5, f6, f7, f8, f9, f10, f11, f12, fun x hx => (leafK_ok (E.leaf x hx)).exm⟩
theorem cls_at (T : TextOk P fns excs ns tf ms is dH dC) (c : Says P w h K fns excs ns tf ms is dH dC consts) (X : K.In base) (G : base.Ns mainGlobals mg) (Y : Cx) (hK : Y.K = K) (hM : Y.mg = mg) : ClsDef Y (ga K) ns := by
  have E := exK_ok c.more
  obtain ⟨fd, F⟩ := SaysD.defs c.t (d := dC) (List.mem_append_right _ (by simp))
  obtain ⟨r, elts, lp, rp, f1, f2, f3, f4, f5, f6, f7⟩ := T.cls.ok
  rw [atB_at T.cAt] at F
  have hk := F.kp
  obtain ⟨kV, doc, pm, cdv, ct, oc, an, od, osl, rfl, lk, hcd, hb, _⟩ := funD_def F T.cAt f2 (by simp)
  rw [T.cNm, f1] at lk hb
  rw [T.cNm] at hcd hk
  refine ⟨⟨ga K "_law_classes", r, dC.params, elts, lp, rp, dC.scope, .none, kV, doc, pm, cdv, ct, oc, an, od, osl, ?_⟩, ?_, ?_⟩
  · rw [hK, hM]
    exact ⟨glo_ok X G (E.glo3 _ (by simp)), hk, lk, hcd, fscB_ok f3, hb, f4, f5, f6, f7⟩
  · rw [hM]; exact free_ok X G (E.free _ (by decide))
  · intro n hn
    rw [hM]; exact glo_ok X G (E.gloN n hn)
theorem prog_at (T : TextOk P fns excs ns tf ms is dH dC) (c : Says P w h K fns excs ns tf ms is dH dC consts) (X : K.In base) (G : base.Ns mainGlobals mg) (TB : ∀ x ∈ tf, TabB base mg (cT K (x, none)).1 (cT K (x, none)).2) :
    ProgK (wdOf K tf) P w mg base (pgOf fns excs ms consts) fns excs ns := by
  have E := exK_ok c.more
  refine ⟨fun x hx => ?_, fun x d hd => ?_, fun x hx => def_at T c X G TB hx, fun x hx => mk_at T c X G hx, heard_at T c X G, fun Y hK hM => cls_at T c X G Y hK hM, T.nsd, T.nsl, fun x hx => ?_⟩
  · refine free_ok X G (E.free x ?_)
    unfold bltNames iterNames tyNames at hx
    unfold freeNs
    rcases hx with z | z | z | z
    · simp only [List.mem_cons, List.mem_nil_iff, or_false] at z ⊢
      rcases z with z | z | z | z | z | z | z | z | z <;> simp [z]
    · simp only [List.mem_cons, List.mem_nil_iff, or_false] at z ⊢
      rcases z with z | z | z <;> simp [z]
    · simp [z]
    · simp only [List.mem_cons, List.mem_nil_iff, or_false] at z ⊢
      rcases z with z | z | z | z | z <;> simp [z]
  · have hm : (x, d) ∈ consts := PySem.mem_of_lookup hd
    exact constB_ok X G (E.cst _ hm)
  · have L := leafK_ok (E.leaf x hx)
    obtain ⟨h1, h2⟩ := ba (List.all_eq_true.mp T.exns x hx)
    exact ⟨L.exc, L.xf, L.no1, L.kit, of_decide_eq_true h1, of_decide_eq_true h2⟩
end
end Mill

set_option Elab.async false
set_option linter.all false
set_option maxRecDepth 100000
set_option maxHeartbeats 4000000
/-! Mill30: the law's def at the head's heap. -/
namespace Mill
open PySem PySem.Spec PyProof.Rows L2 L2H HotX LamX NdefX He
/-- what is asked in plain Lean -/
def LawPure (Pg : Prog) (wf fuel n : Nat) : Prop := ∀ (zs : List Int), zs.length ≤ n → (∀ z ∈ zs, Builtin.Int.intBits z ≤ 1048576) → ∀ t : Tm, (t = .l (zs.map D.int) ∨ t = .d (.fro (zs.map D.int))) → ∃ h1, callF Pg wf fuel "law" [t] [] = .ok (.d (.bl true)) h1
section
variable {P : Program} {w : World} {K : PySem.W.Frag} {h base : Heap} {mg : Str → Option Value} {fns excs ns tf : List Str} {ms : List DefM} {is : List InD} {dH dC : DefD} {consts : List (Str × D)}
theorem fnd_ok {C : Cfg} {kk wf : Nat} {m : DefM} {fn : Fn} {fd : FuncData} {ps : List Str} (T : TextOk P fns excs ns tf ms is dH dC) (c : Says P w h K fns excs ns tf ms is dH dC consts) (X : K.In base) (G : base.Ns mainGlobals mg) (TB : ∀ x ∈ tf, TabB base mg (cT K (x, none)).1 (cT K (x, none)).2)
    (hC : C.glob = (pgOf fns excs ms consts).glob) (hc : CallsOk (wdOf K tf) P w mg base fns C.call kk) (hk : 8 ≤ kk) (hm : m ∈ ms) (hx : m.d.name ∈ fns) (hf : fnOfM fns excs m = some fn) (hp : parNames m.d.params = some ps)
    (F : FunD K m.d.name m.d.qual m.d.params m.d.body m.d.scope (m.d.dvs K) (m.d.kws K) (ga K m.d.name) fd) :
    FnOk P w K mg base (L2N.CX P w) (kk + 3) (ga K m.d.name) fd ps (spOf (wdOf K tf) (runFn C wf fn)) := by
  have PK := prog_at T c X G TB
  have hat := List.all_eq_true.mp T.ats m hm
  have E := exK_ok c.more
  unfold fnOfM at hf
  rw [hp] at hf
  split at hf
  · rename_i ps' b e1 e2
    cases e1
    split at hf
    · rename_i hS
      cases hf
      obtain ⟨kV, doc, pm, cdv, ct, oc, an, od, osl, rfl, lk, hcd, hb, _⟩ := funD_def F hat hp hS.2
      have d9 : m.d.scope.names.lookup ("_law_heard" : Str) = some .globalImplicit → ∃ c0 Pt, cdv = .ref c0 ∧ TabB base mg c0 Pt ∧ (Pt, m.d.name ++ ".<locals>." ++ "<lambda>") ∈ (wdOf K tf).T ∧ ∀ p ∈ (wdOf K tf).T, p.1 = Pt → p.2 = m.d.name ++ ".<locals>." ++ "<lambda>" := fun hl => by
        have hlam := List.all_eq_true.mp T.lam m hm
        rw [hl] at hlam
        have htf : m.d.name ∈ tf := by simpa using hlam
        obtain ⟨c0, rfl⟩ := codeIn_ref hcd
        have ec : codeOf K (m.d.name, none) = c0 := codeOf_eq (fd := PySem.W.fnOf m.d.name m.d.name m.d.params m.d.body m.d.scope .none kV doc pm an (.ref c0) ct) lk rfl
        refine ⟨c0, tabAt K m.d.name, rfl, ?_, List.mem_map.mpr ⟨_, htf, rfl⟩, fun p hp e => ?_⟩
        · have := TB _ htf
          rw [← ec]
          exact this
        · obtain ⟨y, hy, rfl⟩ := List.mem_map.mp hp
          have := nodup_map_inj E.nd y hy m.d.name htf e
          rw [this]
      have S := fscB_ok hS.1
      refine fn_of (k := kk + 2) lk hcd S (fn_len (K := K) (fn := ⟨ps.length, m.N.length, b⟩) rfl) (fun A outer s H vs Q E hr hsp => ?_)
      have OS := fun (f : Addr) => def_okS (W := wdOf K tf) (x := m.d.name) (scope := m.d.scope) (f := f) (cdv := cdv) (A := A) (outer := outer) (s := s) (H := H) (E := E) (N := m.N) (C := C) PK hC hc S.nd
      exact ⟨_, snss (wf := wf) (OS _ hr hk d9) (fun s x h => sns_all (OS _ hr hk d9) 60 s x h) m.d.body b e2, fn_body (fn := ⟨ps.length, m.N.length, b⟩) rfl rfl (fn_len (K := K) (fn := ⟨ps.length, m.N.length, b⟩) rfl _ _ _ _ hsp) hsp⟩
    · cases hf
  · cases hf
theorem law_at {l : PySem.W.OpenLaw} {n wf fuel : Nat} {m : DefM} {fn : Fn} {fa : Addr} (hP : l.prog = P) (T : TextOk P fns excs ns tf ms is dH dC) (c : Says P w h K fns excs ns tf ms is dH dC consts) (X : K.In h) (G : h.Ns mainGlobals mg)
    (hm : m ∈ ms) (hn : m.d.name = "law") (hx : ("law" : Str) ∈ fns) (hf : fnOfM fns excs m = some fn) (hfn : (pgOf fns excs ms consts).fn "law" = some fn) (hp : parNames m.d.params = some [("script" : Str)]) (hfa : mg "law" = some (.ref fa)) (pure : LawPure (pgOf fns excs ms consts) wf (fuel + 1) n) :
    LawAtS l w K (L2N.CX P w) (3 * fuel + 11) n "script" mg fa h := by
  have E := exK_ok c.more
  have hat := List.all_eq_true.mp T.ats m hm
  obtain ⟨fd, F⟩ := SaysD.defs c.t (d := m.d) (List.mem_append_left _ (List.mem_map.mpr ⟨m, hm, rfl⟩))
  rw [atB_at hat] at F
  have e := (glo_ok X G (E.glo _ hx)).symm.trans hfa
  have e : ga K "law" = fa := by
    have := Option.some.inj e
    exact Value.ref.inj this
  obtain ⟨kV, doc, pm, cdv, ct, oc, an, od, osl, rfl, lk, hcd, hb, hbs⟩ := funD_def F hat hp (by simp)
  refine ⟨_, tf.map fun x => cT K (x, none), spOf (wdOf K tf) (callF (pgOf fns excs ms consts) wf (fuel + 1) "law"), fun p hp => ?_, fun p hp => ?_, fun p hp => ?_, fun s u => hbs s [u] rfl, fun H a zs hl hb hT hS => ?_, fun base X2 G2 TB => ?_⟩
  · obtain ⟨x, hx, rfl⟩ := List.mem_map.mp hp
    exact c.empty (x, none) (List.mem_map.mpr ⟨x, hx, rfl⟩)
  · obtain ⟨x, hx, rfl⟩ := List.mem_map.mp hp
    exact c.out (x, none) (List.mem_map.mpr ⟨x, hx, rfl⟩)
  · obtain ⟨x, hx, rfl⟩ := List.mem_map.mp hp
    exact PySem.W.codeHd_of_K X (c.hd (x, none) (List.mem_map.mpr ⟨x, hx, rfl⟩))
  · have hTab : Tabs (wdOf K tf).T H := fun p hp => by
      obtain ⟨x, hx, rfl⟩ := List.mem_map.mp hp
      exact TabS.nil (hT _ (List.mem_map.mpr ⟨x, hx, rfl⟩))
    have hRel : RelH (wdOf K tf).K (wdOf K tf).T [] H [] := ⟨rfl, List.nodup_nil, fun n a ds e _ => by simp at e, hTab⟩
    have hreps : ∀ {m : List Addr} {zs : List Int}, Reps (wdOf K tf).K m H (zs.map D.int) (zs.map V.int) := fun {m zs} => by
      induction zs with
      | nil => exact .nil
      | cons z zs ih => exact .cons (.int z) ih
    have fin : ∀ {t : Tm} {F : List Addr}, (t = .l (zs.map D.int) ∨ t = .d (.fro (zs.map D.int))) → RepT (wdOf K tf).K [] H t (.ref a) F → spOf (wdOf K tf) (callF (pgOf fns excs ms consts) wf (fuel + 1) "law") [.ref a] H (fun v _ => v = .bl true) fun _ _ _ => False := fun {t F} ht r => by
      obtain ⟨h1, e1⟩ := pure zs hl hb t ht
      refine ⟨[], [], [t], F ++ [], hRel, .cons r .nil (fun _ _ => by simp), ?_⟩
      rw [e1]
      intro m1 H1 v G x1 r1 q _
      exact q.bl
    rcases hS with (hS | ⟨o, hS⟩) | hS
    · exact fin (F := [a]) (.inl rfl) ⟨a, _, rfl, hS, hreps, by simp, rfl⟩
    · exact fin (F := []) (.inr rfl) ⟨.fro (.inl ⟨o, hS⟩) hreps, rfl⟩
    · exact fin (F := []) (.inr rfl) ⟨.fro (.inr hS) hreps, rfl⟩
  · have TB2 : ∀ x ∈ tf, TabB base mg (cT K (x, none)).1 (cT K (x, none)).2 := fun x hx => TB _ (List.mem_map.mpr ⟨x, hx, rfl⟩)
    have PK := prog_at T c X2 G2 TB2
    have r := fnd_ok (C := cfg (pgOf fns excs ms consts) wf fuel) (wf := wf) (kk := 3 * fuel + 8) T c X2 G2 TB2 rfl (prog_ok PK wf fuel) (by omega) hm (by rw [hn]; exact hx) hf hp F
    have ee : callF (pgOf fns excs ms consts) wf (fuel + 1) "law" = runFn (cfg (pgOf fns excs ms consts) wf fuel) wf fn := by
      funext ts h
      exact callF_eq hfn ts h
    have eg : ga K m.d.name = ga K "law" := by rw [hn]
    rw [ee, hP, ← e, ← eg]
    exact r
end
end Mill

set_option Elab.async false
set_option linter.all false
set_option maxRecDepth 100000
set_option maxHeartbeats 0
namespace HeadK
open PySem PySem.Spec PyProof.Rows L2 Mill
abbrev prog : Program := PySem.Challenge.pw_datesheld_k33_names_and_dates_that_slip
def top (i : Nat) : Stmt := prog.main.body.getD i (.Pass ⟨0, 0, 0, 0⟩)
def ini (i : Nat) : Stmt := match top i with
  | .ClassDef _ _ _ body _ _ _ _ _ _ _ => body.getD 0 (.Pass ⟨0, 0, 0, 0⟩)
  | s => s
def dOf (x : Str) (i : Nat) : He.DefD := ⟨(x, none), x, x, defArgs (top i), defBody (top i), defScope (top i), [], []⟩
def mOf (x : Str) (i : Nat) (N : List Str) : DefM := ⟨dOf x i, N⟩
def iOf (x : Str) (i : Nat) : InD := ⟨x, "__init__", x ++ ".__init__", defArgs (ini i), defBody (ini i), defScope (ini i)⟩
def ms : List DefM := [mOf "whole" 47 ["thing", "low", "high"],
  mOf "is_name" 54 ["word", "letter"],
  mOf "made_names" 55 ["thing", "found", "index", "word"],
  mOf "spelt_run" 56 ["jobs", "thing", "index", "begin"],
  mOf "slip" 57 ["names", "one", "two", "known", "first", "second", "rows", "name", "begin", "other"],
  mOf "_law_is_whole" 59 ["thing"],
  mOf "_law_same" 60 ["told", "owed", "at"],
  mOf "_law_pool" 63 ["script", "k", "cell", "big", "mixed"],
  mOf "_law_take" 64 ["jar", "top", "number"],
  mOf "_law_one" 65 ["jar", "things"],
  mOf "_law_is_number" 66 ["thing", "low", "high"],
  mOf "_law_letters" 67 [],
  mOf "_law_some_name" 68 ["jar", "ahead", "go", "some", "end", "size", "name", "at", "sign"],
  mOf "_law_some_names" 69 ["jar", "many", "found", "at"],
  mOf "_law_is_one_name" 70 ["thing", "sign"],
  mOf "_law_names_owed" 71 ["thing", "at"],
  mOf "_law_bent_names" 72 ["jar", "called", "at", "odd", "some"],
  mOf "_law_some_run" 73 ["jar", "many", "form", "top", "at"],
  mOf "_law_near_run" 74 ["jar", "run", "n"],
  mOf "_law_bent_run" 75 ["jar", "run", "at", "odd"],
  mOf "_law_run_owed" 76 ["many", "thing", "bad", "at"],
  mOf "_law_slip_owed" 77 ["called", "one", "two", "owed", "run", "lines", "j"],
  mOf "_law_slip_right" 78 ["called", "one", "two", "owed"],
  mOf "_law_called_right" 79 ["jar", "called", "go", "bent", "one", "two", "some", "odd", "other", "pair"],
  mOf "law" 80 ["script", "go", "jar"]]
def dH : He.DefD := dOf "_law_heard" 62
def dC : He.DefD := dOf "_law_classes" 61
def fns : List Str := ["whole", "is_name", "made_names", "spelt_run", "slip", "_law_is_whole", "_law_same", "_law_pool", "_law_take", "_law_one", "_law_is_number", "_law_letters", "_law_some_name", "_law_some_names", "_law_is_one_name", "_law_names_owed", "_law_bent_names", "_law_some_run", "_law_near_run", "_law_bent_run", "_law_run_owed", "_law_slip_owed", "_law_slip_right", "_law_called_right", "law"]
def excs : List Str := ["BadNames", "TooMany", "BadRun"]
def ci : List InD := [iOf "Refused" 1, iOf "BadNames" 44, iOf "TooMany" 46, iOf "BadRun" 17]
def ns : List Str := (["BadPlan", "BadKinds", "BadNeeds", "Ring", "BadDays", "BadJob", "BadKind", "BadMany", "BadOrder", "Same", "Known", "NotKnown", "BadWorkers", "BadTimes", "NoWorkers"] : List Str) ++ (["BadRun", "BadRows", "BadPaper", "IsSafe", "ShortDay", "NotSafe", "ManyKinds", "BadDues", "Never", "HasDay", "BadDone", "Done", "Past", "BadEdit", "BadNumber"] : List Str) ++ (["Unsafe", "Wanted", "BadPlace", "BadPlanner", "BadStamp", "BadEdits", "BadRates", "BadAmount", "NothingToUndo", "NothingToRedo", "BadText", "WrongLine", "BadNames", "BadCase", "TooMany"] : List Str)
def tf : List Str := ["_law_slip_right", "_law_called_right"]
def consts : List (Str × D) := [("MOST_SPELT", .int (10 ^ 20 - 1)), ("MOST_NAMES", .int 60), ("MOST_LETTERS", .int 12), ("LETTERS", .str "abcdefghijklmnopqrstuvwxyz"), ("NO_NAME", .str "none")]
def loose : List Str := (["Refused", "BadPlan", "BadKinds", "BadNeeds", "Ring", "BadDays", "BadJob", "BadKind", "BadMany", "BadOrder", "Same", "Known", "NotKnown", "BadWorkers", "BadTimes", "NoWorkers", "BadRun", "BadRows", "BadPaper", "IsSafe", "ShortDay", "NotSafe", "ManyKinds", "BadDues", "Never", "HasDay", "BadDone", "Done", "Past", "BadEdit"] : List Str) ++ (["BadNumber", "Unsafe", "Wanted", "BadPlace", "BadPlanner", "BadStamp", "BadEdits", "BadRates", "BadAmount", "NothingToUndo", "NothingToRedo", "BadText", "WrongLine", "BadNames", "BadCase", "TooMany", "whole", "is_name", "made_names", "spelt_run", "slip", "_law_is_whole", "_law_same", "_law_classes", "_law_heard", "_law_pool", "_law_take", "_law_one", "_law_is_number", "_law_letters"] : List Str) ++ (["_law_some_name", "_law_some_names", "_law_is_one_name", "_law_names_owed", "_law_bent_names", "_law_some_run", "_law_near_run", "_law_bent_run", "_law_run_owed", "_law_slip_owed", "_law_slip_right", "_law_called_right", "MOST_SPELT", "MOST_NAMES", "MOST_LETTERS", "LETTERS", "NO_NAME"] : List Str)
abbrev R : PySem.W.OpenRow := PySem.W.OpenLaw.row PySem.Challenge.rw_datesheld_k33_names_and_dates_that_slip
def nn : List Str × List Str := ("Refused" :: excs, fns ++ (["_law_heard", "_law_classes"] : List Str))
abbrev hk : PySem.W.Hook := hookY nn (fnDs ms dH dC) ci (tf.map fun x => (x, none)) (exK prog.main.file fns excs ns tf consts)
def ob (s : PySem.W.SharedT) : AlY := obsY nn (fnDs ms dH dC) ci (tf.map fun x => (x, none)) (exK prog.main.file fns excs ns tf consts) (HandSHeadRun.getT s)
theorem ob_eq (s : PySem.W.SharedT) : ob s = hk.obs s.abs := obsY_eq (HandSHeadRun.getT_eq s)
end HeadK

set_option Elab.async false
set_option linter.all false
set_option maxRecDepth 100000
set_option maxHeartbeats 0
namespace HeadK
open PySem PySem.Spec PyProof.Rows L2 Mill
theorem t_fns : (fns.all fun x => ((pgOf fns excs ms []).fn x).isSome) = true := by kernel_rfl
theorem t_ats : (ms.all fun m => atB m.d) = true := by kernel_rfl
theorem t_hat : atB dH = true := by kernel_rfl
theorem t_cat : atB dC = true := by kernel_rfl
theorem t_heard : HeardT dH := ⟨"deed", "refused_one", "line", _, _, _, _, _, _, _, _, _, _, _, _, _, _, _, _, _, _, _, _, _, _, _, _, _, _, _, _, _, _, _, _, _, by rfl, by kernel_rfl, by kernel_rfl, by kernel_rfl, by kernel_rfl, by kernel_rfl, by kernel_rfl, by kernel_rfl, by kernel_rfl, by kernel_rfl, by kernel_rfl, by kernel_rfl⟩
theorem t_cls : ClsT dC ns := ⟨"refused_one", _, _, _, by rfl, by kernel_rfl, by kernel_rfl, by kernel_rfl, by kernel_rfl, by kernel_rfl, by decide⟩
theorem textOk : TextOk prog fns excs ns tf ms ci dH dC where
  fnsOk := t_fns
  ats := t_ats
  hAt := t_hat
  hNm := rfl
  cAt := t_cat
  cNm := rfl
  heard := t_heard
  cls := t_cls
  top := by kernel_rfl
  leafs := by kernel_rfl
  base := by kernel_rfl
  nsd := by decide +kernel
  nsl := by decide
  exns := by kernel_rfl
  lam := by kernel_rfl
end HeadK

set_option Elab.async false
set_option linter.all false
set_option maxRecDepth 100000
set_option maxHeartbeats 0
namespace HeadK
open PySem PySem.Spec PyProof.Rows L2 Mill
theorem run (w : World) : HandSHeadRun.RunEq R (PySem.W.view R.prog [80]) hk ob 14000 loose w := by
  intro os
  kernel_rfl
end HeadK

set_option Elab.async false
set_option linter.all false
set_option maxRecDepth 100000
set_option maxHeartbeats 0
namespace HeadK
open PySem Mill
abbrev Pg : Prog := pgOf fns excs ms consts
def b_whole : Ss := (.cons (.ite (.or (.not (.isin (.var 0) "int")) (.isin (.var 0) "bool")) (.cons (.ret (.bl false)) .nil) .nil) (.cons (.ret (.and (.cmp .LtE (.var 1) (.var 0)) (.or (.cmp .Is (.var 2) .non) (.cmp .LtE (.var 0) (.var 2))))) .nil))
theorem fn_whole : Pg.fn "whole" = some ⟨3, 3, b_whole⟩ := by kernel_rfl
def b_is_name : Ss := (.cons (.ite (.or (.not (.isin (.var 0) "str")) (.or (.not (.chn .LtE .LtE (.int 1) (.bi "len" (.cons (.var 0) .nil)) (.glob "MOST_LETTERS"))) (.cmp .Eq (.var 0) (.glob "NO_NAME")))) (.cons (.ret (.bl false)) .nil) .nil) (.cons (.ret (.bi "all" (.cons (.comp (.cmp .In (.var 1) (.glob "LETTERS")) (.nm 1) (.seq (.var 0)) .no) .nil))) .nil))
theorem fn_is_name : Pg.fn "is_name" = some ⟨1, 2, b_is_name⟩ := by kernel_rfl
def b_made_names : Ss := (.cons (.ite (.not (.isin (.var 0) "tuple")) (.cons (.raise "BadNames" (.neg (.int 1))) .nil) .nil) (.cons (.ite (.cmp .Gt (.bi "len" (.cons (.var 0) .nil)) (.glob "MOST_NAMES")) (.cons (.raise "TooMany" (.bi "len" (.cons (.var 0) .nil))) .nil) .nil) (.cons (.set (.nm 1) (.lst .nil)) (.cons (.for_ (.tp [2, 3]) (.enum (.var 0)) (.cons (.ite (.or (.not (.call "is_name" (.cons (.var 3) .nil))) (.cmp .In (.var 3) (.var 1))) (.cons (.raise "BadNames" (.var 2)) .nil) .nil) (.cons (.ex (.meth "append" (.var 1) (.cons (.var 3) .nil))) .nil))) (.cons (.ret (.bi "tuple" (.cons (.var 1) .nil))) .nil)))))
theorem fn_made_names : Pg.fn "made_names" = some ⟨1, 4, b_made_names⟩ := by kernel_rfl
def b_spelt_run : Ss := (.cons (.ite (.or (.not (.isin (.var 1) "tuple")) (.cmp .NotEq (.bi "len" (.cons (.var 1) .nil)) (.var 0))) (.cons (.raise "BadRun" (.neg (.int 1))) .nil) .nil) (.cons (.for_ (.tp [2, 3]) (.enum (.var 1)) (.cons (.ite (.not (.call "whole" (.cons (.var 3) (.cons (.int 0) (.cons (.glob "MOST_SPELT") .nil))))) (.cons (.raise "BadRun" (.var 2)) .nil) .nil) .nil)) (.cons (.ret (.bi "tuple" (.cons (.comp (.var 3) (.nm 3) (.seq (.var 1)) .no) .nil))) .nil)))
theorem fn_spelt_run : Pg.fn "spelt_run" = some ⟨2, 4, b_spelt_run⟩ := by kernel_rfl
def b_slip : Ss := (.cons (.set (.nm 3) (.call "made_names" (.cons (.var 0) .nil))) (.cons (.set (.nm 4) (.call "spelt_run" (.cons (.bi "len" (.cons (.var 3) .nil)) (.cons (.var 1) .nil)))) (.cons (.set (.nm 5) (.call "spelt_run" (.cons (.bi "len" (.cons (.var 3) .nil)) (.cons (.var 2) .nil)))) (.cons (.clr 6) (.cons (.ret (.meth "join" (.str "\n") (.cons (.comp (.fstr (.cons (.fmt (.var 7)) (.cons (.str " ") (.cons (.fmt (.var 8)) (.cons (.str " to ") (.cons (.fmt (.var 9)) .nil)))))) (.tp [7, 8, 9]) (.zip3 (.var 3) (.var 4) (.var 5)) (.yes (.cmp .NotEq (.var 8) (.var 9)))) .nil))) .nil)))))
theorem fn_slip : Pg.fn "slip" = some ⟨3, 10, b_slip⟩ := by kernel_rfl
def b_law_is_whole : Ss := (.cons (.ret (.and (.isin (.var 0) "int") (.not (.isin (.var 0) "bool")))) .nil)
theorem fn_law_is_whole : Pg.fn "_law_is_whole" = some ⟨1, 1, b_law_is_whole⟩ := by kernel_rfl
def b_law_same : Ss := (.cons (.ite (.cmp .Is (.var 1) .non) (.cons (.ret (.cmp .Is (.var 0) .non)) .nil) .nil) (.cons (.ite (.isin (.var 1) "bool") (.cons (.ret (.ife (.var 1) (.cmp .Is (.var 0) (.bl true)) (.cmp .Is (.var 0) (.bl false)))) .nil) .nil) (.cons (.ite (.isin (.var 1) "int") (.cons (.ret (.and (.call "_law_is_whole" (.cons (.var 0) .nil)) (.cmp .Eq (.var 0) (.var 1)))) .nil) .nil) (.cons (.ite (.isin (.var 1) "str") (.cons (.ret (.and (.isin (.var 0) "str") (.cmp .Eq (.var 0) (.var 1)))) .nil) .nil) (.cons (.ite (.or (.and (.isin (.var 1) "tuple") (.not (.isin (.var 0) "tuple"))) (.and (.isin (.var 1) "list") (.not (.isin (.var 0) "list")))) (.cons (.ret (.bl false)) .nil) .nil) (.cons (.ite (.cmp .NotEq (.bi "len" (.cons (.var 0) .nil)) (.bi "len" (.cons (.var 1) .nil))) (.cons (.ret (.bl false)) .nil) .nil) (.cons (.for_ (.nm 2) (.rng1 (.bi "len" (.cons (.var 1) .nil))) (.cons (.ite (.not (.call "_law_same" (.cons (.ix (.var 0) (.var 2)) (.cons (.ix (.var 1) (.var 2)) .nil)))) (.cons (.ret (.bl false)) .nil) .nil) .nil)) (.cons (.ret (.bl true)) .nil))))))))
theorem fn_law_same : Pg.fn "_law_same" = some ⟨2, 3, b_law_same⟩ := by kernel_rfl
def b_law_pool : Ss := (.cons (.set (.nm 2) (.int 0)) (.cons (.ite (.cmp .Lt (.var 1) (.bi "len" (.cons (.var 0) .nil))) (.cons (.set (.nm 2) (.ix (.var 0) (.var 1))) .nil) (.cons (.ite (.cmp .NotEq (.var 0) (.lst .nil)) (.cons (.set (.nm 2) (.ix (.var 0) (.int 0))) .nil) .nil) .nil)) (.cons (.set (.nm 3) (.bi "max" (.cons (.bi "int" (.cons (.var 2) .nil)) (.cons (.bi "int" (.cons (.bin .Sub (.neg (.int 1)) (.var 2)) .nil)) .nil)))) (.cons (.set (.nm 4) (.bin .Mod (.bi "int" (.cons (.bin .Mult (.bin .Add (.bin .Add (.bin .Add (.bin .Mod (.bi "int" (.cons (.var 3) .nil)) (.int 2147483629)) (.bin .Mult (.bin .Mult (.int 7919) (.var 1)) (.var 1))) (.bin .Mult (.int 31) (.var 1))) (.int 17)) (.int 48271)) .nil)) (.int 2147483647))) (.cons (.ret (.lst (.cons (.bin .Mult (.var 3) (.bi "int" (.cons (.and (.cmp .GtE (.var 3) (.bin .Pow (.int 10) (.int 18))) (.cmp .Lt (.var 1) (.bi "len" (.cons (.var 0) .nil)))) .nil))) (.cons (.var 4) .nil)))) .nil)))))
theorem fn_law_pool : Pg.fn "_law_pool" = some ⟨2, 5, b_law_pool⟩ := by kernel_rfl
def b_law_take : Ss := (.cons (.ite (.cmp .Gt (.ix (.var 0) (.int 0)) (.int 0)) (.cons (.set (.nm 2) (.bin .Mod (.bi "int" (.cons (.ix (.var 0) (.int 0)) .nil)) (.var 1))) (.cons (.setIx (.var 0) (.int 0) (.bin .FloorDiv (.ix (.var 0) (.int 0)) (.var 1))) (.cons (.ret (.var 2)) .nil))) .nil) (.cons (.setIx (.var 0) (.int 1) (.bin .Mod (.bi "int" (.cons (.bin .Add (.bin .Mult (.ix (.var 0) (.int 1)) (.int 39373)) (.int 7)) .nil)) (.int 2147483647))) (.cons (.ret (.bin .Mod (.bi "int" (.cons (.bin .FloorDiv (.bin .Mod (.bi "int" (.cons (.bin .Mult (.ix (.var 0) (.int 1)) (.ix (.var 0) (.int 1))) .nil)) (.int 2147483629)) (.int 32)) .nil)) (.var 1))) .nil)))
theorem fn_law_take : Pg.fn "_law_take" = some ⟨2, 3, b_law_take⟩ := by kernel_rfl
def b_law_one : Ss := (.cons (.ret (.ix (.var 1) (.call "_law_take" (.cons (.var 0) (.cons (.bi "len" (.cons (.var 1) .nil)) .nil))))) .nil)
theorem fn_law_one : Pg.fn "_law_one" = some ⟨2, 2, b_law_one⟩ := by kernel_rfl
def b_law_is_number : Ss := (.cons (.ret (.and (.call "_law_is_whole" (.cons (.var 0) .nil)) (.and (.cmp .LtE (.var 1) (.var 0)) (.cmp .LtE (.var 0) (.var 2))))) .nil)
theorem fn_law_is_number : Pg.fn "_law_is_number" = some ⟨3, 3, b_law_is_number⟩ := by kernel_rfl
def b_law_letters : Ss := (.cons (.ret (.str "abcdefghijklmnopqrstuvwxyz")) .nil)
theorem fn_law_letters : Pg.fn "_law_letters" = some ⟨0, 0, b_law_letters⟩ := by kernel_rfl
def b_law_some_name : Ss := (.cons (.for_ (.nm 2) (.rng1 (.int 20)) (.cons (.set (.nm 5) (.call "_law_one" (.cons (.var 0) (.cons (.lst (.cons (.int 1) (.cons (.int 2) (.cons (.int 3) (.cons (.int 12) (.cons (.bin .Add (.int 1) (.call "_law_take" (.cons (.var 0) (.cons (.int 12) .nil)))) .nil)))))) .nil)))) (.cons (.set (.nm 6) (.meth "join" (.str "") (.cons (.comp (.ix (.call "_law_letters" .nil) (.call "_law_take" (.cons (.var 0) (.cons (.int 26) .nil)))) (.nm 7) (.rng1 (.var 5)) .no) .nil))) (.cons (.ite (.and (.cmp .NotIn (.var 6) (.var 1)) (.cmp .NotEq (.var 6) (.str "none"))) (.cons (.ret (.var 6)) .nil) .nil) .nil)))) (.cons (.set (.nm 3) (.lst .nil)) (.cons (.for_ (.nm 4) (.seq (.lst (.cons (.str "x") (.cons (.str "xy") (.cons (.str "xyz") .nil))))) (.cons (.ex (.meth "extend" (.var 3) (.cons (.comp (.bin .Add (.var 8) (.var 4)) (.nm 8) (.seq (.call "_law_letters" .nil)) (.yes (.cmp .NotIn (.bin .Add (.var 8) (.var 4)) (.var 1)))) .nil))) .nil)) (.cons (.ret (.ix (.var 3) (.int 0))) .nil))))
theorem fn_law_some_name : Pg.fn "_law_some_name" = some ⟨2, 9, b_law_some_name⟩ := by kernel_rfl
def b_law_some_names : Ss := (.cons (.set (.nm 2) (.lst .nil)) (.cons (.for_ (.nm 3) (.rng1 (.var 1)) (.cons (.ex (.meth "append" (.var 2) (.cons (.call "_law_some_name" (.cons (.var 0) (.cons (.var 2) .nil))) .nil))) .nil)) (.cons (.ret (.bi "tuple" (.cons (.var 2) .nil))) .nil)))
theorem fn_law_some_names : Pg.fn "_law_some_names" = some ⟨2, 4, b_law_some_names⟩ := by kernel_rfl
def b_law_is_one_name : Ss := (.cons (.ite (.or (.not (.isin (.var 0) "str")) (.or (.cmp .Lt (.bi "len" (.cons (.var 0) .nil)) (.int 1)) (.or (.cmp .Gt (.bi "len" (.cons (.var 0) .nil)) (.int 12)) (.cmp .Eq (.var 0) (.str "none"))))) (.cons (.ret (.bl false)) .nil) .nil) (.cons (.ret (.cmp .Eq (.comp (.var 1) (.nm 1) (.seq (.var 0)) (.yes (.cmp .NotIn (.var 1) (.call "_law_letters" .nil)))) (.lst .nil))) .nil))
theorem fn_law_is_one_name : Pg.fn "_law_is_one_name" = some ⟨1, 2, b_law_is_one_name⟩ := by kernel_rfl
def b_law_names_owed : Ss := (.cons (.ite (.not (.isin (.var 0) "tuple")) (.cons (.ret (.tup (.cons (.str "BadNames") (.cons (.neg (.int 1)) .nil)))) .nil) .nil) (.cons (.ite (.cmp .Gt (.bi "len" (.cons (.var 0) .nil)) (.int 60)) (.cons (.ret (.tup (.cons (.str "TooMany") (.cons (.bi "len" (.cons (.var 0) .nil)) .nil)))) .nil) .nil) (.cons (.for_ (.nm 1) (.rng1 (.bi "len" (.cons (.var 0) .nil))) (.cons (.ite (.or (.not (.call "_law_is_one_name" (.cons (.ix (.var 0) (.var 1)) .nil))) (.cmp .In (.ix (.var 0) (.var 1)) (.sl (.var 0) .no (.yes (.var 1))))) (.cons (.ret (.tup (.cons (.str "BadNames") (.cons (.var 1) .nil)))) .nil) .nil) .nil)) (.cons (.ret (.tup (.cons (.str "told") (.cons (.var 0) .nil)))) .nil))))
theorem fn_law_names_owed : Pg.fn "_law_names_owed" = some ⟨1, 2, b_law_names_owed⟩ := by kernel_rfl
def b_law_bent_names : Ss := (.cons (.set (.nm 2) (.call "_law_take" (.cons (.var 0) (.cons (.bin .Add (.bi "len" (.cons (.var 1) .nil)) (.int 1)) .nil)))) (.cons (.set (.nm 3) (.call "_law_one" (.cons (.var 0) (.cons (.lst (.cons (.str "") (.cons (.str "none") (.cons (.str "Dig") (.cons (.str "a1") (.cons (.str "a b") (.cons (.bin .Mult (.str "a") (.int 13)) (.cons (.str "a-b") (.cons (.int 0) (.cons .non (.cons (.bl true) (.cons (.tup (.cons (.str "a") .nil)) (.cons (.str "a\n") (.cons (.str "A") (.cons (.ife (.cmp .NotEq (.var 1) (.tup .nil)) (.ix (.var 1) (.int 0)) (.str "none")) .nil))))))))))))))) .nil)))) (.cons (.set (.nm 4) (.lst (.cons (.bin .Add (.bin .Add (.sl (.var 1) .no (.yes (.var 2))) (.tup (.cons (.var 3) .nil))) (.sl (.var 1) (.yes (.var 2)) .no)) (.cons (.bin .Add (.bin .Add (.sl (.var 1) .no (.yes (.var 2))) (.tup (.cons (.var 3) .nil))) (.sl (.var 1) (.yes (.var 2)) .no)) (.cons (.bin .Add (.bin .Add (.sl (.var 1) .no (.yes (.var 2))) (.tup (.cons (.var 3) .nil))) (.sl (.var 1) (.yes (.bin .Add (.var 2) (.int 1))) .no)) (.cons (.bi "list" (.cons (.var 1) .nil)) (.cons .non .nil))))))) (.cons (.ret (.call "_law_one" (.cons (.var 0) (.cons (.bin .Add (.var 4) (.lst (.cons (.str "names") (.cons (.bin .Add (.bin .Add (.var 1) (.sl (.var 1) .no (.yes (.int 1)))) (.tup (.cons (.str "none") .nil))) (.cons (.bin .Mult (.tup (.cons (.str "a") .nil)) (.int 61)) (.cons (.bin .Mult (.tup (.cons (.int 0) .nil)) (.bin .Add (.int 61) (.call "_law_take" (.cons (.var 0) (.cons (.int 5) .nil))))) (.cons (.rev (.var 1)) (.cons (.sl (.var 1) (.yes (.int 1)) .no) .nil)))))))) .nil)))) .nil))))
theorem fn_law_bent_names : Pg.fn "_law_bent_names" = some ⟨2, 5, b_law_bent_names⟩ := by kernel_rfl
def b_law_some_run : Ss := (.cons (.set (.nm 2) (.call "_law_take" (.cons (.var 0) (.cons (.int 4) .nil)))) (.cons (.set (.nm 3) (.ife (.cmp .Lt (.var 2) (.int 2)) (.int 10) (.ife (.cmp .Eq (.var 2) (.int 2)) (.bin .Pow (.int 10) (.int 6)) (.bin .Pow (.int 10) (.int 20))))) (.cons (.ret (.bi "tuple" (.cons (.comp (.call "_law_one" (.cons (.var 0) (.cons (.lst (.cons (.int 0) (.cons (.call "_law_take" (.cons (.var 0) (.cons (.var 3) .nil))) (.cons (.bin .Sub (.var 3) (.int 1)) .nil)))) .nil))) (.nm 4) (.rng1 (.var 1)) .no) .nil))) .nil)))
theorem fn_law_some_run : Pg.fn "_law_some_run" = some ⟨2, 5, b_law_some_run⟩ := by kernel_rfl
def b_law_near_run : Ss := (.cons (.ret (.bi "tuple" (.cons (.comp (.call "_law_one" (.cons (.var 0) (.cons (.lst (.cons (.var 2) (.cons (.var 2) (.cons (.var 2) (.cons (.int 0) (.cons (.call "_law_take" (.cons (.var 0) (.cons (.int 12) .nil))) .nil)))))) .nil))) (.nm 2) (.seq (.var 1)) .no) .nil))) .nil)
theorem fn_law_near_run : Pg.fn "_law_near_run" = some ⟨2, 3, b_law_near_run⟩ := by kernel_rfl
def b_law_bent_run : Ss := (.cons (.set (.nm 2) (.call "_law_take" (.cons (.var 0) (.cons (.bin .Add (.bi "len" (.cons (.var 1) .nil)) (.int 1)) .nil)))) (.cons (.set (.nm 3) (.call "_law_one" (.cons (.var 0) (.cons (.lst (.cons (.neg (.int 1)) (.cons (.bin .Pow (.int 10) (.int 20)) (.cons (.bl true) (.cons .non (.cons (.str "0") (.cons (.tup (.cons (.int 0) .nil)) (.cons (.bin .Pow (.int 10) (.int 30)) .nil)))))))) .nil)))) (.cons (.ret (.call "_law_one" (.cons (.var 0) (.cons (.lst (.cons (.bin .Add (.bin .Add (.sl (.var 1) .no (.yes (.var 2))) (.tup (.cons (.var 3) .nil))) (.sl (.var 1) (.yes (.bin .Add (.var 2) (.int 1))) .no)) (.cons (.bin .Add (.bin .Add (.sl (.var 1) .no (.yes (.var 2))) (.tup (.cons (.var 3) .nil))) (.sl (.var 1) (.yes (.bin .Add (.var 2) (.int 1))) .no)) (.cons (.bin .Add (.var 1) (.tup (.cons (.int 0) .nil))) (.cons (.bi "list" (.cons (.var 1) .nil)) (.cons .non (.cons (.int 7) (.cons (.bin .Add (.sl (.var 1) .no (.yes (.neg (.int 1)))) (.tup (.cons (.var 3) .nil))) .nil)))))))) .nil)))) .nil)))
theorem fn_law_bent_run : Pg.fn "_law_bent_run" = some ⟨2, 4, b_law_bent_run⟩ := by kernel_rfl
def b_law_run_owed : Ss := (.cons (.ite (.or (.not (.isin (.var 1) "tuple")) (.cmp .NotEq (.bi "len" (.cons (.var 1) .nil)) (.var 0))) (.cons (.ret (.tup (.cons (.str "BadRun") (.cons (.neg (.int 1)) .nil)))) .nil) .nil) (.cons (.set (.nm 2) (.comp (.var 3) (.nm 3) (.rng1 (.var 0)) (.yes (.not (.call "_law_is_number" (.cons (.ix (.var 1) (.var 3)) (.cons (.int 0) (.cons (.bin .Sub (.bin .Pow (.int 10) (.int 20)) (.int 1)) .nil)))))))) (.cons (.ret (.ife (.cmp .NotEq (.var 2) (.lst .nil)) (.tup (.cons (.str "BadRun") (.cons (.ix (.var 2) (.int 0)) .nil))) .non)) .nil)))
theorem fn_law_run_owed : Pg.fn "_law_run_owed" = some ⟨2, 4, b_law_run_owed⟩ := by kernel_rfl
def b_law_slip_owed : Ss := (.cons (.set (.nm 3) (.call "_law_names_owed" (.cons (.var 0) .nil))) (.cons (.ite (.cmp .NotEq (.ix (.var 3) (.int 0)) (.str "told")) (.cons (.ret (.var 3)) .nil) .nil) (.cons (.for_ (.nm 4) (.seq (.tup (.cons (.var 1) (.cons (.var 2) .nil)))) (.cons (.ite (.cmp .IsNot (.call "_law_run_owed" (.cons (.bi "len" (.cons (.var 0) .nil)) (.cons (.var 4) .nil))) .non) (.cons (.ret (.call "_law_run_owed" (.cons (.bi "len" (.cons (.var 0) .nil)) (.cons (.var 4) .nil)))) .nil) .nil) .nil)) (.cons (.set (.nm 5) (.comp (.bin .Add (.bin .Add (.bin .Add (.bin .Add (.ix (.var 0) (.var 6)) (.str " ")) (.bi "str" (.cons (.ix (.var 1) (.var 6)) .nil))) (.str " to ")) (.bi "str" (.cons (.ix (.var 2) (.var 6)) .nil))) (.nm 6) (.rng1 (.bi "len" (.cons (.var 0) .nil))) (.yes (.cmp .NotEq (.ix (.var 1) (.var 6)) (.ix (.var 2) (.var 6)))))) (.cons (.ret (.tup (.cons (.str "told") (.cons (.meth "join" (.str "\n") (.cons (.var 5) .nil)) .nil)))) .nil)))))
theorem fn_law_slip_owed : Pg.fn "_law_slip_owed" = some ⟨3, 7, b_law_slip_owed⟩ := by kernel_rfl
def b_law_slip_right : Ss := (.cons (.set (.nm 3) (.call "_law_slip_owed" (.cons (.var 0) (.cons (.var 1) (.cons (.var 2) .nil))))) (.cons (.ret (.call "_law_same" (.cons (.heard ["BadNames", "TooMany", "BadRun"] (.call "slip" (.cons (.var 0) (.cons (.var 1) (.cons (.var 2) .nil))))) (.cons (.var 3) .nil)))) .nil))
theorem fn_law_slip_right : Pg.fn "_law_slip_right" = some ⟨3, 4, b_law_slip_right⟩ := by kernel_rfl
def b_law_called_right : Ss := (.cons (.ite (.not (.call "_law_same" (.cons (.heard ["BadNames", "TooMany", "BadRun"] (.call "made_names" (.cons (.var 1) .nil))) (.cons (.tup (.cons (.str "told") (.cons (.var 1) .nil))) .nil)))) (.cons (.ret (.bl false)) .nil) .nil) (.cons (.for_ (.nm 2) (.rng1 (.int 4)) (.cons (.set (.nm 3) (.call "_law_bent_names" (.cons (.var 0) (.cons (.var 1) .nil)))) (.cons (.ite (.not (.call "_law_same" (.cons (.heard ["BadNames", "TooMany", "BadRun"] (.call "made_names" (.cons (.var 3) .nil))) (.cons (.call "_law_names_owed" (.cons (.var 3) .nil)) .nil)))) (.cons (.ret (.bl false)) .nil) .nil) (.cons (.set (.nm 4) (.call "_law_some_run" (.cons (.var 0) (.cons (.bi "len" (.cons (.var 1) .nil)) .nil)))) (.cons (.set (.nm 5) (.call "_law_near_run" (.cons (.var 0) (.cons (.var 4) .nil)))) (.cons (.par 7 8 (.call "_law_bent_run" (.cons (.var 0) (.cons (.var 4) .nil))) (.call "_law_bent_run" (.cons (.var 0) (.cons (.var 5) .nil)))) (.cons (.set (.nm 6) (.lst (.cons (.tup (.cons (.var 4) (.cons (.var 5) .nil))) (.cons (.tup (.cons (.var 5) (.cons (.var 4) .nil))) (.cons (.tup (.cons (.var 4) (.cons (.var 4) .nil))) (.cons (.tup (.cons (.var 7) (.cons (.var 8) .nil))) (.cons (.tup (.cons (.var 4) (.cons (.var 8) .nil))) (.cons (.tup (.cons (.var 7) (.cons (.var 5) .nil))) (.cons (.tup (.cons (.var 5) (.cons (.var 7) .nil))) .nil))))))))) (.cons (.ite (.cmp .NotEq (.comp (.var 9) (.nm 9) (.seq (.var 6)) (.yes (.not (.call "_law_slip_right" (.cons (.var 1) (.cons (.ix (.var 9) (.int 0)) (.cons (.ix (.var 9) (.int 1)) .nil))))))) (.lst .nil)) (.cons (.ret (.bl false)) .nil) .nil) (.cons (.ite (.or (.not (.call "_law_slip_right" (.cons (.var 3) (.cons (.var 7) (.cons (.var 8) .nil))))) (.not (.call "_law_slip_right" (.cons (.var 3) (.cons (.var 4) (.cons (.var 5) .nil)))))) (.cons (.ret (.bl false)) .nil) .nil) .nil))))))))) (.cons (.ret (.call "_law_same" (.cons (.heard ["BadNames", "TooMany", "BadRun"] (.call "made_names" (.cons (.var 1) .nil))) (.cons (.tup (.cons (.str "told") (.cons (.var 1) .nil))) .nil)))) .nil)))
theorem fn_law_called_right : Pg.fn "_law_called_right" = some ⟨2, 10, b_law_called_right⟩ := by kernel_rfl
def b_law : Ss := (.cons (.for_ (.nm 1) (.rng1 (.int 5)) (.cons (.set (.nm 2) (.call "_law_pool" (.cons (.var 0) (.cons (.var 1) .nil)))) (.cons (.ite (.not (.call "_law_called_right" (.cons (.var 2) (.cons (.call "_law_some_names" (.cons (.var 2) (.cons (.call "_law_take" (.cons (.var 2) (.cons (.int 11) .nil))) .nil))) .nil)))) (.cons (.ret (.bl false)) .nil) .nil) .nil))) (.cons (.set (.nm 2) (.call "_law_pool" (.cons (.var 0) (.cons (.int 5) .nil)))) (.cons (.ite (.and (.cmp .Eq (.call "_law_take" (.cons (.var 2) (.cons (.int 3) .nil))) (.int 0)) (.not (.call "_law_called_right" (.cons (.var 2) (.cons (.call "_law_some_names" (.cons (.var 2) (.cons (.int 60) .nil))) .nil))))) (.cons (.ret (.bl false)) .nil) .nil) (.cons (.ret (.and (.call "_law_slip_right" (.cons (.tup (.cons (.str "dig") (.cons (.str "haul") (.cons (.str "fell") .nil)))) (.cons (.tup (.cons (.int 0) (.cons (.int 4) (.cons (.int 2) .nil)))) (.cons (.tup (.cons (.int 1) (.cons (.int 4) (.cons (.int 0) .nil)))) .nil)))) (.call "_law_slip_right" (.cons (.tup .nil) (.cons (.tup .nil) (.cons (.tup .nil) .nil)))))) .nil))))
theorem fn_law : Pg.fn "law" = some ⟨1, 3, b_law⟩ := by kernel_rfl
end HeadK

set_option Elab.async false
set_option linter.all false
set_option maxRecDepth 100000
set_option maxHeartbeats 4000000
/-! Pure1: tools for the plain law. -/
namespace Mill
open PySem
def Cl (h : AH) : Prop := h.all (belowC h.length) = true
mutual
theorem below_mono {n m : Nat} (hm : n ≤ m) : ∀ {d : D}, below n d = true → below m d = true
  | .non, _ => by simp [below]
  | .bl _, _ => by simp [below]
  | .int _, _ => by simp [below]
  | .str _, _ => by simp [below]
  | .ref k, h => by
    unfold below at h ⊢
    have := of_decide_eq_true h
    exact decide_eq_true (by omega)
  | .tup ds, h => by unfold below at h ⊢; exact belows_mono hm h
  | .fro ds, h => by unfold below at h ⊢; exact belows_mono hm h
theorem belows_mono {n m : Nat} (hm : n ≤ m) : ∀ {ds : List D}, belows n ds = true → belows m ds = true
  | [], _ => by simp [belows]
  | d :: ds, h => by
    unfold belows at h ⊢
    rw [Bool.and_eq_true] at h ⊢
    exact ⟨below_mono hm h.1, belows_mono hm h.2⟩
end
theorem belowC_mono {n m : Nat} (hm : n ≤ m) {c : Cell} (h : belowC n c = true) : belowC m c = true := by
  cases c with
  | lst ds => unfold belowC at h ⊢; exact belows_mono hm h
theorem Cl.push {h : AH} {ds : List D} (c : Cl h) (hd : belows h.length ds = true) : Cl (h ++ [.lst ds]) := by
  unfold Cl at c ⊢
  rw [List.all_append, Bool.and_eq_true, List.length_append]
  refine ⟨List.all_eq_true.mpr fun x hx => belowC_mono (by simp) (List.all_eq_true.mp c x hx), ?_⟩
  simp only [List.all_cons, List.all_nil, Bool.and_true]
  unfold belowC
  exact belows_mono (by simp) hd
theorem Cl.set {h : AH} {ds : List D} {j : Nat} (c : Cl h) (hd : belows h.length ds = true) : Cl (h.set j (.lst ds)) := by
  unfold Cl at c ⊢
  rw [List.length_set]
  refine List.all_eq_true.mpr fun x hx => ?_
  rcases List.mem_or_eq_of_mem_set hx with z | z
  · exact List.all_eq_true.mp c x z
  · subst z; unfold belowC; exact hd
theorem ite_same {α : Type} {p : Prop} [Decidable p] {a : α} : (if p then a else a) = a := by split <;> rfl
theorem leave_same {h : AH} {x : D} : leave h.length (.d x) h = .ok (.d x) h := by
  unfold leave
  rw [List.take_length]
  cases x with
  | ref k =>
    by_cases hk : k < h.length
    · simp only [hk, if_true, ite_same]
    · have e : h[k]? = none := List.getElem?_eq_none_iff.mpr (by omega)
      simp only [hk, if_false, e, ite_same]
  | _ => simp only [ite_same]
theorem leave_cut {h' e : AH} {x : D} {n : Nat} (hn : h'.length = n) (c : Cl h') (hx : below n x = true) : leave n (.d x) (h' ++ e) = .ok (.d x) h' := by
  subst hn
  have c2 : h'.all (belowC h'.length) = true := c
  unfold leave
  rw [List.take_left, if_pos c2]
  cases x with
  | ref k =>
    have : k < h'.length := by unfold below at hx; exact of_decide_eq_true hx
    simp only [this, if_true]
  | _ => simp only [hx, if_true]
theorem leave_cutl {h' e : AH} {ds : List D} {n : Nat} (hn : h'.length = n) (c : Cl h') (hx : belows n ds = true) : leave n (.l ds) (h' ++ e) = .ok (.l ds) h' := by
  subst hn
  have c2 : h'.all (belowC h'.length) = true := c
  unfold leave
  rw [List.take_left, if_pos c2]
  simp only [hx, if_true]
theorem leaveX_cut {h' e : AH} {c : Str} {w : D} {n : Nat} (hn : h'.length = n) (cl : Cl h') (hx : below n w = true) : leaveX n c w (h' ++ e) = .exc c w h' := by
  subst hn
  unfold leaveX
  have c2 : (h'.all (belowC h'.length)) = true := cl
  rw [List.take_left, if_pos (by rw [c2, hx]; rfl)]
theorem call_at {Pg : Prog} {f : Str} {fn : Fn} {wf k : Nat} {ts : List Tm} {h : AH} (hf : Pg.fn f = some fn) (hl : ts.length = fn.ps) :
    callF Pg wf (k + 1) f ts h = finish h.length (evSs (cfg Pg wf k) wf fn.body ((namAll ts h).1.map some ++ List.replicate (fn.n - fn.ps) none) (namAll ts h).2) := by
  rw [callF_eq hf]
  unfold runFn
  rw [if_pos hl]
end Mill
namespace HeadK
open PySem Mill
/-- is a whole number, no truth -/
def isI : D → Bool
  | .int _ => true
  | _ => false
theorem is_whole_ok {k wf : Nat} {d : D} {h : AH} (hv : (tyT (.d d) h).isSome = true) : callF Pg wf (k + 1) "_law_is_whole" [.d d] h = .ok (.d (.bl (isI d))) h := by
  rw [call_at fn_law_is_whole rfl]
  have e : evSs (cfg Pg wf k) wf b_law_is_whole ([some d]) h = .rt (.d (.bl (isI d))) h := by
    cases d with
    | ref n =>
      cases q : h[n]? with
      | none => simp [tyT, viewL, viewM, q] at hv
      | some c =>
        cases c with
        | lst ds =>
          have e1 : isT (.d (.ref n)) "int" h = some false := by
            unfold isT tyT
            simp only [viewL, viewM, q]
            decide +kernel
          have e2 : ([some (D.ref n)] : Sl)[0]? = some (some (.ref n)) := rfl
          simp only [b_law_is_whole, evSs, evS, evE, e2, R.bind_ok, e1, truT, R.out_ok, isI]
    | non => kernel_rfl
    | bl b => kernel_rfl
    | int i => kernel_rfl
    | str x => kernel_rfl
    | tup ds => kernel_rfl
    | fro ds => kernel_rfl
  show finish h.length (evSs (cfg Pg wf k) wf b_law_is_whole ([some d]) h) = _
  rw [e]
  exact leave_same
end HeadK

set_option Elab.async false
set_option linter.all false
set_option maxRecDepth 100000
set_option maxHeartbeats 4000000
/-! PureE: evaluation by rewriting, the first part first (continuations are names: simp does not look into them). -/
namespace Mill
open PySem
def O.sq (o : O) (f : Sl → AH → O) : O := match o with
  | .nx ρ h => f ρ h
  | o => o
theorem sq_nx {ρ : Sl} {h : AH} {f : Sl → AH → O} : (O.nx ρ h).sq f = f ρ h := rfl
theorem sq_rt {t : Tm} {h : AH} {f : Sl → AH → O} : (O.rt t h).sq f = .rt t h := rfl
theorem sq_exc {c : Str} {w : D} {h : AH} {f : Sl → AH → O} : (O.exc c w h).sq f = .exc c w h := rfl
theorem sq_bk {ρ : Sl} {h : AH} {f : Sl → AH → O} : (O.bk ρ h).sq f = .bk ρ h := rfl
theorem sq_ct {ρ : Sl} {h : AH} {f : Sl → AH → O} : (O.ct ρ h).sq f = .ct ρ h := rfl
section
variable {C : Cfg} {wf : Nat} {ρ : Sl} {h h1 : AH} {x y : Tm}
theorem q_nil : evSs C wf .nil ρ h = .nx ρ h := rfl
theorem q_cons {s : S} {ss : Ss} : evSs C wf (.cons s ss) ρ h = (evS C wf s ρ h).sq (evSs C wf ss) := rfl
def kTw (C : Cfg) (wf : Nat) (a b : Ss) (ρ : Sl) (o : Option Bool) (h1 : AH) : O := match o with
  | some true => evSs C wf a ρ h1
  | some false => evSs C wf b ρ h1
  | none => .err
theorem kTw_t {a b : Ss} : kTw C wf a b ρ (some true) h1 = evSs C wf a ρ h1 := rfl
theorem kTw_f {a b : Ss} : kTw C wf a b ρ (some false) h1 = evSs C wf b ρ h1 := rfl
def kIte (C : Cfg) (wf : Nat) (a b : Ss) (ρ : Sl) (x : Tm) (h1 : AH) : O := kTw C wf a b ρ (truT x h1) h1
theorem kIte_a {a b : Ss} : kIte C wf a b ρ x h1 = kTw C wf a b ρ (truT x h1) h1 := rfl
theorem q_ite {c : E} {a b : Ss} : evS C wf (.ite c a b) ρ h = (evE C c ρ h).out (kIte C wf a b ρ) := rfl
def kSo (o : Option Sl) (h1 : AH) : O := match o with
  | some ρ' => .nx ρ' h1
  | none => .err
theorem kSo_a {ρ' : Sl} : kSo (some ρ') h1 = .nx ρ' h1 := rfl
def kSet (t : Tg) (ρ : Sl) (x : Tm) (h1 : AH) : O := kSo (setTg t (nam x h1).1 ρ) (nam x h1).2
theorem kSet_a {t : Tg} : kSet t ρ x h1 = kSo (setTg t (nam x h1).1 ρ) (nam x h1).2 := rfl
theorem q_set {t : Tg} {e : E} : evS C wf (.set t e) ρ h = (evE C e ρ h).out (kSet t ρ) := rfl
def kXo (ρ : Sl) (o : Option AH) : O := match o with
  | some h4 => .nx ρ h4
  | none => .err
theorem kXo_a {h4 : AH} : kXo ρ (some h4) = .nx ρ h4 := rfl
def kX3 (x p : Tm) (ρ : Sl) (k : Tm) (h3 : AH) : O := kXo ρ (setIxT p k x h3)
theorem kX3_a {p k : Tm} : kX3 x p ρ k h1 = kXo ρ (setIxT p k x h1) := rfl
def kX2 (C : Cfg) (i : E) (x : Tm) (ρ : Sl) (p : Tm) (h2 : AH) : O := (evE C i ρ h2).out (kX3 x p ρ)
theorem kX2_a {i : E} {p : Tm} : kX2 C i x ρ p h1 = (evE C i ρ h1).out (kX3 x p ρ) := rfl
def kX1 (C : Cfg) (o i : E) (ρ : Sl) (x : Tm) (h1 : AH) : O := (evE C o ρ h1).out (kX2 C i x ρ)
theorem kX1_a {o i : E} : kX1 C o i ρ x h1 = (evE C o ρ h1).out (kX2 C i x ρ) := rfl
theorem q_setIx {o i e : E} : evS C wf (.setIx o i e) ρ h = (evE C e ρ h).out (kX1 C o i ρ) := rfl
def kRet (x : Tm) (h1 : AH) : O := .rt x h1
theorem kRet_a : kRet x h1 = .rt x h1 := rfl
theorem q_ret {e : E} : evS C wf (.ret e) ρ h = (evE C e ρ h).out kRet := rfl
def kEx (ρ : Sl) (x : Tm) (h1 : AH) : O := .nx ρ h1
theorem kEx_a : kEx ρ x h1 = .nx ρ h1 := rfl
theorem q_ex {e : E} : evS C wf (.ex e) ρ h = (evE C e ρ h).out (kEx ρ) := rfl
def kRaise (c : Str) (x : Tm) (h1 : AH) : O := .exc c (nam x h1).1 (nam x h1).2
theorem kRaise_a {c : Str} : kRaise c x h1 = .exc c (nam x h1).1 (nam x h1).2 := rfl
theorem q_raise {c : Str} {e : E} : evS C wf (.raise c e) ρ h = (evE C e ρ h).out (kRaise c) := rfl
def kTe (C : Cfg) (a b : E) (ρ : Sl) (o : Option Bool) (h1 : AH) : R Tm := match o with
  | some true => evE C a ρ h1
  | some false => evE C b ρ h1
  | none => .err
theorem kTe_t {a b : E} : kTe C a b ρ (some true) h1 = evE C a ρ h1 := rfl
theorem kTe_f {a b : E} : kTe C a b ρ (some false) h1 = evE C b ρ h1 := rfl
def kIfe (C : Cfg) (a b : E) (ρ : Sl) (x : Tm) (h1 : AH) : R Tm := kTe C a b ρ (truT x h1) h1
theorem kIfe_a {a b : E} : kIfe C a b ρ x h1 = kTe C a b ρ (truT x h1) h1 := rfl
theorem q_ife {c a b : E} : evE C (.ife c a b) ρ h = (evE C c ρ h).bind (kIfe C a b ρ) := rfl
def kAo (C : Cfg) (b : E) (ρ : Sl) (x : Tm) (o : Option Bool) (h1 : AH) : R Tm := match o with
  | some true => evE C b ρ h1
  | some false => .ok x h1
  | none => .err
theorem kAo_t {b : E} : kAo C b ρ x (some true) h1 = evE C b ρ h1 := rfl
theorem kAo_f {b : E} : kAo C b ρ x (some false) h1 = .ok x h1 := rfl
def kAnd (C : Cfg) (b : E) (ρ : Sl) (x : Tm) (h1 : AH) : R Tm := kAo C b ρ x (truT x h1) h1
theorem kAnd_a {b : E} : kAnd C b ρ x h1 = kAo C b ρ x (truT x h1) h1 := rfl
theorem q_and {a b : E} : evE C (.and a b) ρ h = (evE C a ρ h).bind (kAnd C b ρ) := rfl
def kOo (C : Cfg) (b : E) (ρ : Sl) (x : Tm) (o : Option Bool) (h1 : AH) : R Tm := match o with
  | some true => .ok x h1
  | some false => evE C b ρ h1
  | none => .err
theorem kOo_t {b : E} : kOo C b ρ x (some true) h1 = .ok x h1 := rfl
theorem kOo_f {b : E} : kOo C b ρ x (some false) h1 = evE C b ρ h1 := rfl
def kOr (C : Cfg) (b : E) (ρ : Sl) (x : Tm) (h1 : AH) : R Tm := kOo C b ρ x (truT x h1) h1
theorem kOr_a {b : E} : kOr C b ρ x h1 = kOo C b ρ x (truT x h1) h1 := rfl
theorem q_or {a b : E} : evE C (.or a b) ρ h = (evE C a ρ h).bind (kOr C b ρ) := rfl
def kNo (o : Option Bool) (h1 : AH) : R Tm := match o with
  | some b => .ok (.d (.bl (!b))) h1
  | none => .err
theorem kNo_a {b : Bool} : kNo (some b) h1 = .ok (.d (.bl (!b))) h1 := rfl
def kNot (x : Tm) (h1 : AH) : R Tm := kNo (truT x h1) h1
theorem kNot_a : kNot x h1 = kNo (truT x h1) h1 := rfl
theorem q_not {a : E} : evE C (.not a) ρ h = (evE C a ρ h).bind kNot := rfl
def kVo (o : Option (Option D)) (h : AH) : R Tm := match o with
  | some (some x) => .ok (.d x) h
  | _ => .err
theorem kVo_a {d : D} : kVo (some (some d)) h = .ok (.d d) h := rfl
theorem q_var {i : Nat} : evE C (.var i) ρ h = kVo ρ[i]? h := by
  show (match ρ[i]? with | some (some x) => R.ok (Tm.d x) h | _ => .err) = _
  cases ρ[i]? with
  | none => rfl
  | some o => cases o <;> rfl
def kGo (o : Option D) (h : AH) : R Tm := match o with
  | some x => .ok (.d x) h
  | _ => .err
theorem kGo_a {d : D} : kGo (some d) h = .ok (.d d) h := rfl
theorem q_glob {i : Str} : evE C (.glob i) ρ h = kGo (C.glob i) h := by
  show (match C.glob i with | some x => R.ok (Tm.d x) h | none => .err) = _
  cases C.glob i <;> rfl
theorem q_int {i : Int} : evE C (.int i) ρ h = .ok (.d (.int i)) h := rfl
theorem q_bl {b : Bool} : evE C (.bl b) ρ h = .ok (.d (.bl b)) h := rfl
theorem q_non : evE C .non ρ h = .ok (.d .non) h := rfl
theorem q_str {z : Str} : evE C (.str z) ρ h = .ok (.d (.str z)) h := rfl
def kBin2 (op : Operator) (x y : Tm) (h2 : AH) : R Tm := binT op x y h2
theorem kBin2_a {op : Operator} : kBin2 op x y h1 = binT op x y h1 := rfl
def kBin (C : Cfg) (op : Operator) (b : E) (ρ : Sl) (x : Tm) (h1 : AH) : R Tm := (evE C b ρ h1).bind (kBin2 op x)
theorem kBin_a {op : Operator} {b : E} : kBin C op b ρ x h1 = (evE C b ρ h1).bind (kBin2 op x) := rfl
theorem q_bin {op : Operator} {a b : E} : evE C (.bin op a b) ρ h = (evE C a ρ h).bind (kBin C op b ρ) := rfl
def kCmp2 (op : CmpOp) (x y : Tm) (h2 : AH) : R Tm := cmpR op x y h2
theorem kCmp2_a {op : CmpOp} : kCmp2 op x y h1 = cmpR op x y h1 := rfl
def kCmp (C : Cfg) (op : CmpOp) (b : E) (ρ : Sl) (x : Tm) (h1 : AH) : R Tm := (evE C b ρ h1).bind (kCmp2 op x)
theorem kCmp_a {op : CmpOp} {b : E} : kCmp C op b ρ x h1 = (evE C b ρ h1).bind (kCmp2 op x) := rfl
theorem q_cmp {op : CmpOp} {a b : E} : evE C (.cmp op a b) ρ h = (evE C a ρ h).bind (kCmp C op b ρ) := rfl
def kIx2 (x y : Tm) (h2 : AH) : R Tm := ixT x y h2
theorem kIx2_a : kIx2 x y h1 = ixT x y h1 := rfl
def kIx (C : Cfg) (b : E) (ρ : Sl) (x : Tm) (h1 : AH) : R Tm := (evE C b ρ h1).bind (kIx2 x)
theorem kIx_a {b : E} : kIx C b ρ x h1 = (evE C b ρ h1).bind (kIx2 x) := rfl
theorem q_ix {a b : E} : evE C (.ix a b) ρ h = (evE C a ρ h).bind (kIx C b ρ) := rfl
def kNg (x : Tm) (h1 : AH) : R Tm := match x with
  | .d (.int i) => .ok (.d (.int (-i))) h1
  | _ => .err
theorem kNg_a {i : Int} : kNg (.d (.int i)) h1 = .ok (.d (.int (-i))) h1 := rfl
theorem q_neg {a : E} : evE C (.neg a) ρ h = (evE C a ρ h).bind kNg := rfl
def kTup (ts : List Tm) (h1 : AH) : R Tm := if ts.length ≤ sizeLine then .ok (.d (.tup (namAll ts h1).1)) (namAll ts h1).2 else .err
theorem kTup_a {ts : List Tm} (e : ts.length ≤ 1000) : kTup ts h1 = .ok (.d (.tup (namAll ts h1).1)) (namAll ts h1).2 := by
  unfold kTup; rw [if_pos (by rw [sizeLine_eq]; omega)]
theorem q_tup {es : Es} : evE C (.tup es) ρ h = (evEs C es ρ h).bind kTup := rfl
def kLst (ts : List Tm) (h1 : AH) : R Tm := if ts.length ≤ sizeLine then .ok (.l (namAll ts h1).1) (namAll ts h1).2 else .err
theorem kLst_a {ts : List Tm} (e : ts.length ≤ 1000) : kLst ts h1 = .ok (.l (namAll ts h1).1) (namAll ts h1).2 := by
  unfold kLst; rw [if_pos (by rw [sizeLine_eq]; omega)]
theorem q_lst {es : Es} : evE C (.lst es) ρ h = (evEs C es ρ h).bind kLst := rfl
def kCall (C : Cfg) (f : Str) (ts : List Tm) (h1 : AH) : R Tm := C.call f ts h1
theorem kCall_a {f : Str} {ts : List Tm} : kCall C f ts h1 = C.call f ts h1 := rfl
theorem q_call {f : Str} {as : Es} : evE C (.call f as) ρ h = (evEs C as ρ h).bind (kCall C f) := rfl
def kBi (f : Str) (ts : List Tm) (h1 : AH) : R Tm := biT f ts h1
theorem kBi_a {f : Str} {ts : List Tm} : kBi f ts h1 = biT f ts h1 := rfl
theorem q_bi {f : Str} {as : Es} : evE C (.bi f as) ρ h = (evEs C as ρ h).bind (kBi f) := rfl
def kIs (ty : String) (x : Tm) (h1 : AH) : R Tm := kIo (isT x ty h1) h1
where kIo (o : Option Bool) (h1 : AH) : R Tm := match o with
  | some b => .ok (.d (.bl b)) h1
  | none => .err
theorem kIs_a {ty : String} {b : Bool} (e : isT x ty h1 = some b) : kIs ty x h1 = .ok (.d (.bl b)) h1 := by
  show kIs.kIo _ _ = _
  rw [e]; rfl
theorem q_isin {a : E} {ty : String} : evE C (.isin a ty) ρ h = (evE C a ρ h).bind (kIs ty) := rfl
def kEs2 (t : Tm) (ts : List Tm) (h2 : AH) : R (List Tm) := .ok (t :: ts) h2
theorem kEs2_a {ts : List Tm} : kEs2 x ts h1 = .ok (x :: ts) h1 := rfl
def kEs (C : Cfg) (es : Es) (ρ : Sl) (t : Tm) (h1 : AH) : R (List Tm) := (evEs C es ρ h1).bind (kEs2 t)
theorem kEs_a {es : Es} : kEs C es ρ x h1 = (evEs C es ρ h1).bind (kEs2 x) := rfl
theorem q_nilE : evEs C .nil ρ h = .ok [] h := rfl
theorem q_consE {e : E} {es : Es} : evEs C (.cons e es) ρ h = (evE C e ρ h).bind (kEs C es ρ) := rfl
theorem b_int {i : Int} : biT "int" [.d (.int i)] h = .ok (.d (.int i)) h := by kernel_rfl
theorem b_intb {b : Bool} : biT "int" [.d (.bl b)] h = .ok (.d (.int (if b = true then 1 else 0))) h := by kernel_rfl
theorem b_max {i j : Int} : biT "max" [.d (.int i), .d (.int j)] h = .ok (.d (.int (if j > i then j else i))) h := by kernel_rfl
theorem n_mod {i j : Int} (hj : 0 < j) : binT .Mod (.d (.int i)) (.d (.int j)) h = .ok (.d (.int (i % j))) h := by
  show (if 0 < j then R.ok (Tm.d (.int (i % j))) h else R.err) = _
  rw [if_pos hj]
theorem n_fdiv {i j : Int} (hj : 0 < j) (h2 : j.natAbs.log2 < 9000) : binT .FloorDiv (.d (.int i)) (.d (.int j)) h = .ok (.d (.int (i / j))) h := by
  show (if 0 < j ∧ j.natAbs.log2 < 9000 then R.ok (Tm.d (.int (i / j))) h else R.err) = _
  rw [if_pos ⟨hj, h2⟩]
theorem n_add {i j : Int} : binT .Add (.d (.int i)) (.d (.int j)) h = .ok (.d (.int (i + j))) h := rfl
theorem n_sub {i j : Int} : binT .Sub (.d (.int i)) (.d (.int j)) h = .ok (.d (.int (i - j))) h := rfl
theorem n_mul {i j : Int} (e : mulOk i j = true) : binT .Mult (.d (.int i)) (.d (.int j)) h = .ok (.d (.int (i * j))) h := by
  show (if mulOk i j = true then R.ok (Tm.d (.int (i * j))) h else R.err) = _
  rw [if_pos e]
theorem c_gt {i j : Int} : cmpR .Gt (.d (.int i)) (.d (.int j)) h = .ok (.d (.bl (decide (j < i)))) h := rfl
theorem c_ge {i j : Int} : cmpR .GtE (.d (.int i)) (.d (.int j)) h = .ok (.d (.bl (decide (j ≤ i)))) h := rfl
theorem c_lt {i j : Int} : cmpR .Lt (.d (.int i)) (.d (.int j)) h = .ok (.d (.bl (decide (i < j)))) h := rfl
theorem c_le {i j : Int} : cmpR .LtE (.d (.int i)) (.d (.int j)) h = .ok (.d (.bl (decide (i ≤ j)))) h := rfl
theorem t_bl {b : Bool} : truT (.d (.bl b)) h = some b := rfl
theorem i_ref {j : Nat} {ds : List D} {d : D} {i : Int} (e : h[j]? = some (.lst ds)) (e2 : L2.atI ds i = some d) : ixT (.d (.ref j)) (.d (.int i)) h = .ok (.d d) h := by
  show (match viewS (.d (.ref j)) h with
      | some ds => (match L2.atI ds i with | some x => R.ok (Tm.d x) h | none => .err)
      | none => .err) = _
  have : viewS (.d (.ref j)) h = some ds := by simp only [viewS, viewL, viewM, e]
  simp only [this, e2]
end
end Mill

set_option Elab.async false
set_option linter.all false
set_option maxRecDepth 100000
set_option maxHeartbeats 4000000
/-! Pure2: the jar. -/
namespace K33
open PySem Mill HeadK
theorem namAll_d (ds : List D) : ∀ h : AH, namAll (ds.map Tm.d) h = (ds, h) := by
  induction ds with
  | nil => intro h; rfl
  | cons d ds ih =>
    intro h
    show ((nam (.d d) h).1 :: (namAll (ds.map Tm.d) (nam (.d d) h).2).1, (namAll (ds.map Tm.d) (nam (.d d) h).2).2) = _
    rw [show (nam (.d d) h).2 = h from rfl, ih]; rfl
theorem call_rt {wf k : Nat} {f : Str} {fn : Fn} {ds : List D} {x : D} {h h' : AH} (hf : Pg.fn f = some fn) (hl : ds.length = fn.ps) (e : evSs (cfg Pg wf k) wf fn.body (ds.map some ++ List.replicate (fn.n - fn.ps) none) h = .rt (.d x) h') (hh : h'.length = h.length) :
    callF Pg wf (k + 1) f (ds.map Tm.d) h = .ok (.d x) h' := by
  rw [call_at hf (by rw [List.length_map]; exact hl), namAll_d, e]
  show leave h.length (.d x) h' = _
  rw [← hh]; exact leave_same
theorem letters_ok {wf k : Nat} {h : AH} : callF Pg wf (k + 1) "_law_letters" [] h = .ok (.d (.str "abcdefghijklmnopqrstuvwxyz")) h :=
  call_rt (ds := []) fn_law_letters rfl (by kernel_rfl) rfl
/-- the jar at j -/
def Jar (h : AH) (j : Nat) : Prop := ∃ a b : Int, h[j]? = some (.lst [.int a, .int b]) ∧ 0 ≤ a ∧ 0 ≤ b ∧ b < 2147483647
/-- the jar is drawn from, all else stays -/
def Drawn (h h' : AH) (j : Nat) : Prop := Jar h' j ∧ ∃ a b : Int, h' = h.set j (.lst [.int a, .int b])
theorem mulOk_r {i j : Int} (h1 : -(2 ^ 64) < j) (h2 : j < 2 ^ 64) : mulOk i j = true := by
  unfold mulOk
  have : decide (-(2 ^ 64) < j ∧ j < 2 ^ 64) = true := decide_eq_true ⟨h1, h2⟩
  rw [this, Bool.or_true, Bool.true_or]
theorem take_ok {wf k j : Nat} {h : AH} {top : Int} (J : Jar h j) (h1 : 1 ≤ top) (h2 : top.natAbs.log2 < 9000) :
    ∃ (r : Int) (h' : AH), callF Pg wf (k + 1) "_law_take" [.d (.ref j), .d (.int top)] h = .ok (.d (.int r)) h' ∧ 0 ≤ r ∧ r < top ∧ Drawn h h' j := by
  obtain ⟨a, b, hj, ha, hb, hb2⟩ := J
  have hjl : j < h.length := (List.getElem?_eq_some_iff.mp hj).1
  have e0 : (cfg Pg wf k).call = callF Pg wf k := rfl
  have ixs : ∀ (x y : Int), L2.ixN [D.int x, D.int y].length 0 = some 0 := fun x y => by kernel_rfl
  have ixs1 : ∀ (x y : Int), L2.ixN [D.int x, D.int y].length 1 = some 1 := fun x y => by kernel_rfl
  have at0 : ∀ (x y : Int), L2.atI [D.int x, D.int y] 0 = some (.int x) := fun x y => by kernel_rfl
  have at1 : ∀ (x y : Int), L2.atI [D.int x, D.int y] 1 = some (.int y) := fun x y => by kernel_rfl
  have vS : ∀ (h : AH) (x y : Int), h[j]? = some (.lst [.int x, .int y]) → viewS (.d (.ref j)) h = some [.int x, .int y] := fun h x y e => by simp only [viewS, viewL, viewM, e]
  have t0 : 0 < top := by omega
  have ev : (cfg Pg wf k).call = callF Pg wf k := rfl
  have m2 : (2147483629 : Int).natAbs.log2 < 9000 := by decide +kernel
  by_cases h0 : 0 < a
  · refine ⟨a % top, h.set j (.lst [.int (a / top), .int b]), call_rt (ds := [.ref j, .int top]) fn_law_take rfl ?_ (by simp), Int.emod_nonneg _ (by omega), Int.emod_lt_of_pos _ (by omega), ⟨⟨a / top, b, by rw [List.getElem?_set_self hjl], Int.ediv_nonneg ha (by omega), hb, hb2⟩, _, _, rfl⟩⟩
    have x0 : setIxT (.d (.ref j)) (.d (.int 0)) (.d (.int (a / top))) h = some (h.set j (.lst [.int (a / top), .int b])) := by
      simp only [setIxT, hj, ixs]; rfl
    have r0 : ∀ r : Int, ([some (D.ref j), some (.int top), some (.int r)] : Sl)[0]? = some (some (.ref j)) := fun _ => rfl
    have r1 : ∀ r : Int, ([some (D.ref j), some (.int top), some (.int r)] : Sl)[1]? = some (some (.int top)) := fun _ => rfl
    have r2 : ∀ r : Int, ([some (D.ref j), some (.int top), some (.int r)] : Sl)[2]? = some (some (.int r)) := fun _ => rfl
    have s0 : ([some (D.ref j), some (.int top), none] : Sl)[0]? = some (some (.ref j)) := rfl
    have s1 : ([some (D.ref j), some (.int top), none] : Sl)[1]? = some (some (.int top)) := rfl
    have st : ∀ r : Int, setTg (.nm 2) (D.int r) ([some (D.ref j), some (.int top), none] : Sl) = some [some (D.ref j), some (.int top), some (.int r)] := fun _ => rfl
    have g0 : ixT (.d (.ref j)) (.d (.int 0)) h = .ok (.d (.int a)) h := i_ref hj (at0 a b)
    show evSs (cfg Pg wf k) wf b_law_take [some (D.ref j), some (.int top), none] h = _
    simp only [b_law_take, q_cons, q_ite, q_cmp, kCmp_a, kCmp2_a, q_ix, kIx_a, kIx2_a, q_var, s0, s1, kVo_a, R.bind_ok, q_int, g0, c_gt, R.out_ok, kIte_a, t_bl, decide_eq_true h0, kTw_t, q_set, q_bin, kBin_a, kBin2_a, q_bi, q_consE, kEs_a, kEs2_a, q_nilE, kBi_a, b_int, n_mod t0, kSet_a, nam, st, kSo_a, sq_nx, q_setIx, r0, r1, r2, n_fdiv t0 h2, kX1_a, kX2_a, kX3_a, x0, kXo_a, q_ret, kRet_a, sq_rt]
  · have hb' : 0 ≤ (b * 39373 + 7) % 2147483647 ∧ (b * 39373 + 7) % 2147483647 < 2147483647 := ⟨Int.emod_nonneg _ (by decide), Int.emod_lt_of_pos _ (by decide)⟩
    generalize hc : (b * 39373 + 7) % 2147483647 = c at hb'
    refine ⟨((c * c) % 2147483629 / 32) % top, h.set j (.lst [.int a, .int c]), call_rt (ds := [.ref j, .int top]) fn_law_take rfl ?_ (by simp), Int.emod_nonneg _ (by omega), Int.emod_lt_of_pos _ (by omega), ⟨⟨a, c, by rw [List.getElem?_set_self hjl], ha, hb'.1, hb'.2⟩, _, _, rfl⟩⟩
    have x0 : setIxT (.d (.ref j)) (.d (.int 1)) (.d (.int c)) h = some (h.set j (.lst [.int a, .int c])) := by
      simp only [setIxT, hj, ixs1]; rfl
    have s0 : ([some (D.ref j), some (.int top), none] : Sl)[0]? = some (some (.ref j)) := rfl
    have s1 : ([some (D.ref j), some (.int top), none] : Sl)[1]? = some (some (.int top)) := rfl
    have g0 : ixT (.d (.ref j)) (.d (.int 0)) h = .ok (.d (.int a)) h := i_ref hj (at0 a b)
    have g1 : ixT (.d (.ref j)) (.d (.int 1)) h = .ok (.d (.int b)) h := i_ref hj (at1 a b)
    have g2 : ixT (.d (.ref j)) (.d (.int 1)) (h.set j (.lst [.int a, .int c])) = .ok (.d (.int c)) (h.set j (.lst [.int a, .int c])) := i_ref (by rw [List.getElem?_set_self hjl]) (at1 a c)
    show evSs (cfg Pg wf k) wf b_law_take [some (D.ref j), some (.int top), none] h = _
    simp only [b_law_take, q_cons, q_nil, q_ite, q_cmp, kCmp_a, kCmp2_a, q_ix, kIx_a, kIx2_a, q_var, s0, s1, kVo_a, R.bind_ok, q_int, g0, g1, g2, c_gt, R.out_ok, kIte_a, t_bl, decide_eq_false h0, kTw_f, q_bin, kBin_a, kBin2_a, q_bi, q_consE, kEs_a, kEs2_a, q_nilE, kBi_a, b_int, n_mod t0, n_mod (show (0 : Int) < 2147483647 by decide), n_mod (show (0 : Int) < 2147483629 by decide), n_add, n_mul (mulOk_r (i := b) (j := 39373) (by decide) (by decide)), n_mul (mulOk_r (i := c) (j := c) (by omega) (by omega)), n_fdiv (show (0 : Int) < 32 by decide) (show (32 : Int).natAbs.log2 < 9000 by decide +kernel), hc, sq_nx, q_setIx, kX1_a, kX2_a, kX3_a, x0, kXo_a, q_ret, kRet_a, sq_rt]
end K33

set_option Elab.async false
set_option linter.all false
set_option maxRecDepth 100000
set_option maxHeartbeats 4000000
/-! Pure3: one of a list. -/
namespace K33
open PySem Mill HeadK
theorem Jar.push {h e : AH} {j : Nat} (J : Jar h j) : Jar (h ++ e) j := by
  obtain ⟨a, b, h1, h2⟩ := J
  refine ⟨a, b, ?_, h2⟩
  rw [List.getElem?_append_left (List.getElem?_eq_some_iff.mp h1).1]; exact h1
theorem Jar.lt {h : AH} {j : Nat} (J : Jar h j) : j < h.length := by
  obtain ⟨a, b, h1, h2⟩ := J
  exact (List.getElem?_eq_some_iff.mp h1).1
theorem b_len {t : Tm} {ds : List D} {h : AH} (e : viewS t h = some ds) (ht : ∀ x, t ≠ .d (.str x)) : biT "len" [t] h = .ok (.d (.int ds.length)) h := by
  have : biT "len" [t] h = biLen [t] h := by kernel_rfl
  rw [this]
  unfold biLen
  split
  · rename_i z; cases z; exact absurd rfl (ht _)
  · rename_i z; cases z; rw [e]
  · rename_i z1 z2; exact absurd rfl (z2 t)
theorem belows_mem {n : Nat} {x : D} : ∀ {ds : List D}, belows n ds = true → x ∈ ds → below n x = true
  | [], _, h => by cases h
  | d :: ds, h, hm => by
    unfold belows at h
    rw [Bool.and_eq_true] at h
    rcases List.mem_cons.mp hm with z | z
    · rw [z]; exact h.1
    · exact belows_mem h.2 z
/-- _law_one(jar, [..]) -/
theorem one_ok {wf k j : Nat} {h : AH} {ds : List D} (J : Jar h j) (c : Cl h) (hb : belows h.length ds = true) (hn : ds ≠ []) (hl : ds.length ≤ 1000) :
    ∃ (x : D) (h' : AH), callF Pg wf (k + 2) "_law_one" [.d (.ref j), .l ds] h = .ok (.d x) h' ∧ x ∈ ds ∧ Drawn h h' j := by
  have hpos : 0 < ds.length := List.length_pos_iff.mpr hn
  obtain ⟨r, h1, e1, r0, r1, J1, a', b', eh⟩ := take_ok (wf := wf) (k := k) (top := (ds.length : Int)) (J.push (e := [.lst ds])) (by omega) (by
    have : (ds.length : Int).natAbs = ds.length := by simp
    rw [this]
    have h2 : ds.length < 2 ^ 9000 := Nat.lt_of_le_of_lt hl (by decide +kernel)
    by_cases hz : ds.length = 0
    · rw [hz]; decide +kernel
    · exact (Nat.log2_lt hz).mpr h2)
  have hjl := J.lt
  have eh2 : h1 = h.set j (.lst [.int a', .int b']) ++ [.lst ds] := by
    rw [eh, List.set_append_left _ _ hjl]
  have hlt : r.toNat < ds.length := by omega
  have hat : L2.atI ds r = some ds[r.toNat] := by
    have := L2.atI_nat (xs := ds) (j := r.toNat) (v := ds[r.toNat]) (by simp [hlt])
    rw [Int.toNat_of_nonneg r0] at this
    exact this
  have vl : (h ++ [Cell.lst ds])[h.length]? = some (.lst ds) := by simp
  have vl1 : h1[h.length]? = some (.lst ds) := by rw [eh2]; simp
  refine ⟨ds[r.toNat], h.set j (.lst [.int a', .int b']), ?_, List.getElem_mem _, ?_, a', b', rfl⟩
  · rw [call_at fn_law_one rfl]
    have s0 : ([some (D.ref j), some (.ref h.length)] : Sl)[0]? = some (some (.ref j)) := rfl
    have s1 : ([some (D.ref j), some (.ref h.length)] : Sl)[1]? = some (some (.ref h.length)) := rfl
    have bl : biT "len" [.d (.ref h.length)] (h ++ [.lst ds]) = .ok (.d (.int ds.length)) (h ++ [.lst ds]) := b_len (by simp only [viewS, viewL, viewM, vl]) fun _ z => by cases z
    have ec : (cfg Pg wf (k + 1)).call = callF Pg wf (k + 1) := rfl
    have gi : ixT (.d (.ref h.length)) (.d (.int r)) h1 = .ok (.d ds[r.toNat]) h1 := i_ref vl1 hat
    have ev : evSs (cfg Pg wf (k + 1)) wf b_law_one [some (D.ref j), some (.ref h.length)] (h ++ [.lst ds]) = .rt (.d ds[r.toNat]) h1 := by
      simp only [b_law_one, q_cons, q_ret, q_ix, q_var, s0, s1, kVo_a, R.bind_ok, kIx_a, kIx2_a, q_call, q_consE, kEs_a, kEs2_a, q_nilE, q_bi, kBi_a, bl, kCall_a, ec, e1, gi, R.out_ok, kRet_a, sq_rt]
    show finish h.length (evSs (cfg Pg wf (k + 1)) wf b_law_one [some (D.ref j), some (.ref h.length)] (h ++ [.lst ds])) = _
    rw [ev, eh2]
    exact leave_cut (by simp) (c.set (by simp [belows, below])) (belows_mem hb (List.getElem_mem _))
  · obtain ⟨a2, b2, q1, q2⟩ := J1
    refine ⟨a2, b2, ?_, q2⟩
    rw [eh2, List.getElem?_append_left (by simpa using hjl)] at q1
    exact q1
end K33

set_option Elab.async false
set_option linter.all false
set_option maxRecDepth 100000
set_option maxHeartbeats 4000000
/-! Pure4: whole numbers within bounds. -/
namespace K33
open PySem Mill HeadK
/-- a value whose kind is known -/
def Vd (d : D) (h : AH) : Prop := (tyT (.d d) h).isSome = true
theorem isT_ref {n : Nat} {h : AH} (hv : Vd (.ref n) h) {ty : String} (hk : L2.kitB "list" ty = some false) : isT (.d (.ref n)) ty h = some false := by
  unfold Vd at hv
  cases q : h[n]? with
  | none => simp [tyT, viewL, viewM, q] at hv
  | some c =>
    cases c with
    | lst ds =>
      unfold isT tyT
      simp only [viewL, viewM, q]
      exact hk
def isInt (d : D) : Bool := match d with | .int _ => true | .bl _ => true | _ => false
def isBl (d : D) : Bool := match d with | .bl _ => true | _ => false
def isStr (d : D) : Bool := match d with | .str _ => true | _ => false
def isTu (d : D) : Bool := match d with | .tup _ => true | _ => false
theorem isT_int {d : D} {h : AH} (hv : Vd d h) : isT (.d d) "int" h = some (isInt d) := by
  cases d with
  | ref n => exact isT_ref hv (by decide +kernel)
  | _ => kernel_rfl
theorem isT_bool {d : D} {h : AH} (hv : Vd d h) : isT (.d d) "bool" h = some (isBl d) := by
  cases d with
  | ref n => exact isT_ref hv (by decide +kernel)
  | _ => kernel_rfl
theorem isT_str {d : D} {h : AH} (hv : Vd d h) : isT (.d d) "str" h = some (isStr d) := by
  cases d with
  | ref n => exact isT_ref hv (by decide +kernel)
  | _ => kernel_rfl
theorem isT_tuple {d : D} {h : AH} (hv : Vd d h) : isT (.d d) "tuple" h = some (isTu d) := by
  cases d with
  | ref n => exact isT_ref hv (by decide +kernel)
  | _ => kernel_rfl
/-- a whole number, low and high at most apart -/
def inB (d : D) (lo hi : Int) : Bool := match d with
  | .int i => decide (lo ≤ i) && decide (i ≤ hi)
  | _ => false
theorem whole_ok {wf k : Nat} {d : D} {lo hi : Int} {h : AH} (hv : Vd d h) : callF Pg wf (k + 1) "whole" [.d d, .d (.int lo), .d (.int hi)] h = .ok (.d (.bl (inB d lo hi))) h := by
  refine call_rt (ds := [d, .int lo, .int hi]) fn_whole rfl ?_ rfl
  have s0 : ([some d, some (.int lo), some (.int hi)] : Sl)[0]? = some (some d) := rfl
  have s1 : ([some d, some (.int lo), some (.int hi)] : Sl)[1]? = some (some (.int lo)) := rfl
  have s2 : ([some d, some (.int lo), some (.int hi)] : Sl)[2]? = some (some (.int hi)) := rfl
  have ci : cmpR .Is (.d (.int hi)) (.d .non) h = .ok (.d (.bl false)) h := rfl
  show evSs (cfg Pg wf k) wf b_whole [some d, some (.int lo), some (.int hi)] h = _
  cases d with
  | int i =>
    by_cases hl : lo ≤ i
    · simp only [b_whole, q_cons, q_nil, q_ite, q_or, q_and, q_not, q_isin, q_var, s0, s1, s2, kVo_a, R.bind_ok, kIs_a (isT_int hv), kIs_a (isT_bool hv), isInt, isBl, kNot_a, t_bl, kNo_a, Bool.not_true, kOr_a, kOo_f, R.out_ok, kIte_a, kTw_f, sq_nx, q_ret, q_cmp, kCmp_a, kCmp2_a, c_le, decide_eq_true hl, kAnd_a, kAo_t, q_non, ci, kRet_a, sq_rt, inB, Bool.true_and]
    · simp only [b_whole, q_cons, q_nil, q_ite, q_or, q_and, q_not, q_isin, q_var, s0, s1, s2, kVo_a, R.bind_ok, kIs_a (isT_int hv), kIs_a (isT_bool hv), isInt, isBl, kNot_a, t_bl, kNo_a, Bool.not_true, kOr_a, kOo_f, R.out_ok, kIte_a, kTw_f, sq_nx, q_ret, q_cmp, kCmp_a, kCmp2_a, c_le, decide_eq_false hl, kAnd_a, kAo_f, q_non, ci, kRet_a, sq_rt, inB, Bool.false_and]
  | bl b => simp only [b_whole, q_cons, q_nil, q_ite, q_or, q_and, q_not, q_isin, q_var, s0, s1, s2, kVo_a, R.bind_ok, kIs_a (isT_int hv), kIs_a (isT_bool hv), isInt, isBl, kNot_a, t_bl, kNo_a, Bool.not_true, Bool.not_false, kOr_a, kOo_f, kOo_t, R.out_ok, kIte_a, kTw_t, sq_nx, q_ret, q_bl, kRet_a, sq_rt, inB]
  | _ => simp only [b_whole, q_cons, q_nil, q_ite, q_or, q_and, q_not, q_isin, q_var, s0, s1, s2, kVo_a, R.bind_ok, kIs_a (isT_int hv), kIs_a (isT_bool hv), isInt, isBl, kNot_a, t_bl, kNo_a, Bool.not_true, Bool.not_false, kOr_a, kOo_f, kOo_t, R.out_ok, kIte_a, kTw_t, sq_nx, q_ret, q_bl, kRet_a, sq_rt, inB]
end K33

set_option Elab.async false
set_option linter.all false
set_option maxRecDepth 100000
set_option maxHeartbeats 4000000
/-! Pure5: comprehensions. -/
namespace Mill
open PySem
theorem compL_pure {step : D → AH → R (Option D)} {f : D → Option D} {h : AH} {s : Src} (ds : List D) (hs : ∀ i, i < ds.length → s.get h i = ds[i]?) (hf : s.fin h = true) (hstep : ∀ x ∈ ds, step x h = .ok (f x) h) :
    ∀ (k i : Nat) (acc : List D), i + k = ds.length → acc.length + k ≤ sizeLine → compL s step k i acc h = .ok (.l (acc ++ (ds.drop i).filterMap f)) h
  | 0, i, acc, e, _ => by
    have : ds.drop i = [] := List.drop_eq_nil_iff.mpr (by omega)
    unfold compL
    rw [hf, if_pos rfl, this]; simp
  | k + 1, i, acc, e, hl => by
    have hi : i < ds.length := by omega
    have hd : ds.drop i = ds[i] :: ds.drop (i + 1) := by rw [List.drop_eq_getElem_cons hi]
    unfold compL
    rw [hs i hi, List.getElem?_eq_getElem hi]
    simp only [hstep _ (List.getElem_mem hi)]
    cases q : f ds[i] with
    | none =>
      simp only []
      rw [compL_pure ds hs hf hstep k (i + 1) acc (by omega) (by omega), hd, List.filterMap_cons, q]
    | some y =>
      simp only []
      rw [if_pos (by omega), compL_pure ds hs hf hstep k (i + 1) (acc ++ [y]) (by omega) (by rw [List.length_append]; simp; omega), hd, List.filterMap_cons, q]
      simp
end Mill

set_option Elab.async false
set_option linter.all false
set_option maxRecDepth 100000
set_option maxHeartbeats 4000000
/-! PureF: more rules of evaluation (as PureE). -/
namespace Mill
open PySem
section
variable {C : Cfg} {wf : Nat} {ρ : Sl} {h h1 : AH} {x y : Tm}
def kC4 (C : Cfg) (o2 : CmpOp) (c : E) (ρ : Sl) (y r : Tm) (h3 : AH) : R Tm := match r with
  | .d (.bl true) => (evE C c ρ h3).bind (kCmp2 o2 y)
  | r => .ok r h3
theorem kC4_t {o2 : CmpOp} {c : E} : kC4 C o2 c ρ y (.d (.bl true)) h1 = (evE C c ρ h1).bind (kCmp2 o2 y) := rfl
theorem kC4_f {o2 : CmpOp} {c : E} : kC4 C o2 c ρ y (.d (.bl false)) h1 = .ok (.d (.bl false)) h1 := rfl
def kC3 (C : Cfg) (o1 o2 : CmpOp) (c : E) (ρ : Sl) (x y : Tm) (h2 : AH) : R Tm := (cmpR o1 x y h2).bind (kC4 C o2 c ρ y)
theorem kC3_a {o1 o2 : CmpOp} {c : E} : kC3 C o1 o2 c ρ x y h1 = (cmpR o1 x y h1).bind (kC4 C o2 c ρ y) := rfl
def kC2 (C : Cfg) (o1 o2 : CmpOp) (b c : E) (ρ : Sl) (x : Tm) (h1 : AH) : R Tm := (evE C b ρ h1).bind (kC3 C o1 o2 c ρ x)
theorem kC2_a {o1 o2 : CmpOp} {b c : E} : kC2 C o1 o2 b c ρ x h1 = (evE C b ρ h1).bind (kC3 C o1 o2 c ρ x) := rfl
theorem q_chn {o1 o2 : CmpOp} {a b c : E} : evE C (.chn o1 o2 a b c) ρ h = (evE C a ρ h).bind (kC2 C o1 o2 b c ρ) := rfl
theorem q_noC : evC C .no ρ h = .ok true h := rfl
def kTb (o : Option Bool) (h1 : AH) : R Bool := match o with
  | some b => .ok b h1
  | none => .err
theorem kTb_a {b : Bool} : kTb (some b) h1 = .ok b h1 := rfl
def kTr (x : Tm) (h1 : AH) : R Bool := kTb (truT x h1) h1
theorem kTr_a : kTr x h1 = kTb (truT x h1) h1 := rfl
theorem q_yesC {e : E} : evC C (.yes e) ρ h = (evE C e ρ h).bind kTr := rfl
def kSome (x : Tm) (h3 : AH) : R (Option D) := .ok (some (nam x h3).1) (nam x h3).2
theorem kSome_a : kSome x h1 = .ok (some (nam x h1).1) (nam x h1).2 := rfl
def kSt (C : Cfg) (elt : E) (ρ : Sl) (b : Bool) (h2 : AH) : R (Option D) := if b then (evE C elt ρ h2).bind kSome else .ok none h2
theorem kSt_t {elt : E} : kSt C elt ρ true h1 = (evE C elt ρ h1).bind kSome := rfl
theorem kSt_f {elt : E} : kSt C elt ρ false h1 = .ok none h1 := rfl
def kStep (C : Cfg) (elt : E) (tg : Tg) (c : Op) (ρ : Sl) (x : D) (h : AH) : R (Option D) := match setTg tg x ρ with
  | none => .err
  | some ρ' => (evC C c ρ' h).bind (kSt C elt ρ')
theorem kStep_a {elt : E} {tg : Tg} {c : Op} {ρ' : Sl} {d : D} (e : setTg tg d ρ = some ρ') : kStep C elt tg c ρ d h = (evC C c ρ' h).bind (kSt C elt ρ') := by unfold kStep; rw [e]
def kComp (C : Cfg) (elt : E) (tg : Tg) (c : Op) (ρ : Sl) (s : Src) (h1 : AH) : R Tm := compL s (kStep C elt tg c ρ) s.len 0 [] h1
theorem q_comp {elt : E} {tg : Tg} {it : It} {c : Op} : evE C (.comp elt tg it c) ρ h = (evI C it ρ h).bind (kComp C elt tg c ρ) := rfl
def kSo2 (o : Option Src) (h1 : AH) : R Src := match o with
  | some s => .ok s h1
  | none => .err
theorem kSo2_a {s : Src} : kSo2 (some s) h1 = .ok s h1 := rfl
def kSeq (x : Tm) (h1 : AH) : R Src := kSo2 (srcT x h1) h1
theorem kSeq_a : kSeq x h1 = kSo2 (srcT x h1) h1 := rfl
theorem q_seq {e : E} : evI C (.seq e) ρ h = (evE C e ρ h).bind kSeq := rfl
def rngS (i j : Int) : Src := ⟨(j - i).toNat, fun _ k => some (.int (i + (k : Nat))), fun _ => true⟩
/-- a comprehension over what does not change -/
theorem comp_fix {elt : E} {tg : Tg} {c : Op} {f : D → Option D} {s : Src} (ds : List D) (hs : ∀ i, i < ds.length → s.get h i = ds[i]?) (hn : s.len = ds.length) (hf : s.fin h = true) (hl : ds.length ≤ 1000000) (hstep : ∀ d ∈ ds, kStep C elt tg c ρ d h = .ok (f d) h) :
    kComp C elt tg c ρ s h = .ok (.l (ds.filterMap f)) h := by
  unfold kComp
  rw [compL_pure ds hs hf hstep s.len 0 [] (by omega) (by rw [hn, sizeLine_eq]; simp; omega)]
  simp
end
end Mill

set_option Elab.async false
set_option linter.all false
set_option maxRecDepth 100000
set_option maxHeartbeats 4000000
/-! PureG: the rest of the rules of evaluation, and loops. -/
namespace Mill
open PySem
section
variable {C : Cfg} {wf : Nat} {ρ : Sl} {h h1 : AH} {x y : Tm}
theorem nam_d {d : D} : nam (.d d) h = (d, h) := rfl
theorem nam_l {ds : List D} : nam (.l ds) h = (.ref h.length, h ++ [.lst ds]) := rfl
theorem namAll_nil : namAll [] h = ([], h) := rfl
theorem namAll_cons {t : Tm} {ts : List Tm} : namAll (t :: ts) h = ((nam t h).1 :: (namAll ts (nam t h).2).1, (namAll ts (nam t h).2).2) := rfl
theorem setTg_nm {i : Nat} {d : D} : setTg (.nm i) d ρ = some (ρ.set i (some d)) := rfl
theorem call_cfg {Pg : Prog} {k : Nat} : (cfg Pg wf k).call = callF Pg wf k := rfl
theorem glob_cfg {Pg : Prog} {k : Nat} : (cfg Pg wf k).glob = Pg.glob := rfl
theorem kTup_b {ts : List Tm} (e : (ts.length ≤ 1000) = True) : kTup ts h1 = .ok (.d (.tup (namAll ts h1).1)) (namAll ts h1).2 := kTup_a (of_eq_true e)
theorem kLst_b {ts : List Tm} (e : (ts.length ≤ 1000) = True) : kLst ts h1 = .ok (.l (namAll ts h1).1) (namAll ts h1).2 := kLst_a (of_eq_true e)
theorem kIs_b {ty : String} : kIs ty x h1 = kIs.kIo (isT x ty h1) h1 := rfl
theorem kIsO_a {b : Bool} : kIs.kIo (some b) h1 = .ok (.d (.bl b)) h1 := rfl
/-! for -/
def kBody (C : Cfg) (wf : Nat) (t : Tg) (b : Ss) (x : D) (ρ : Sl) (h : AH) : O := match setTg t x ρ with
  | some ρ' => evSs C wf b ρ' h
  | none => .err
theorem kBody_a {t : Tg} {b : Ss} {d : D} {ρ' : Sl} (e : setTg t d ρ = some ρ') : kBody C wf t b d ρ h = evSs C wf b ρ' h := by unfold kBody; rw [e]
def kFor (C : Cfg) (wf : Nat) (t : Tg) (b : Ss) (ρ : Sl) (s : Src) (h1 : AH) : O := forL s (kBody C wf t b) s.len 0 ρ h1
theorem kFor_a {t : Tg} {b : Ss} {s : Src} : kFor C wf t b ρ s h1 = forL s (kBody C wf t b) s.len 0 ρ h1 := rfl
theorem q_for {t : Tg} {it : It} {b : Ss} : evS C wf (.for_ t it b) ρ h = (evI C it ρ h).out (kFor C wf t b ρ) := (rfl)
def rng1S (j : Int) : Src := ⟨j.toNat, fun _ i => some (.int (0 + (i : Nat))), fun _ => true⟩
def kRng (x : Tm) (h1 : AH) : R Src := match optI x with
  | some j => if -(2 ^ 62) ≤ j ∧ j < 2 ^ 62 then .ok ⟨j.toNat, fun _ i => some (.int (0 + (i : Nat))), fun _ => true⟩ h1 else .err
  | none => .err
theorem q_rng1 {a : E} : evI C (.rng1 a) ρ h = (evE C a ρ h).bind kRng := (rfl)
theorem kRng_a {j : Int} (e : (-(2 ^ 62) ≤ j ∧ j < 2 ^ 62) = True) : kRng (.d (.int j)) h1 = .ok (rng1S j) h1 := by
  show (if -(2 ^ 62) ≤ j ∧ j < 2 ^ 62 then R.ok (rng1S j) h1 else R.err) = _
  rw [if_pos (of_eq_true e)]
def kEnum (x : Tm) (h1 : AH) : R Src := match x with
  | .d (.tup ds) => .ok (Src.fix ds).enum h1
  | _ => .err
theorem kEnum_a {ds : List D} : kEnum (.d (.tup ds)) h1 = .ok (Src.fix ds).enum h1 := rfl
theorem q_enum {e : E} : evI C (.enum e) ρ h = (evE C e ρ h).bind kEnum := (rfl)
def kZ4 (t u v : Tm) (h3 : AH) : R Src := match t, u, v with
  | .d (.tup xs), .d (.tup ys), .d (.tup zs) => if xs.length = ys.length ∧ ys.length = zs.length then
          .ok (Src.fix ((xs.zip (ys.zip zs)).map fun p => .tup [p.1, p.2.1, p.2.2])) h3 else .err
  | _, _, _ => .err
def kZ3 (C : Cfg) (c : E) (ρ : Sl) (t u : Tm) (h2 : AH) : R Src := (evE C c ρ h2).bind (kZ4 t u)
def kZ2 (C : Cfg) (b c : E) (ρ : Sl) (t : Tm) (h1 : AH) : R Src := (evE C b ρ h1).bind (kZ3 C c ρ t)
theorem q_zip3 {a b c : E} : evI C (.zip3 a b c) ρ h = (evE C a ρ h).bind (kZ2 C b c ρ) := (rfl)
theorem kZ2_a {b c : E} : kZ2 C b c ρ x h1 = (evE C b ρ h1).bind (kZ3 C c ρ x) := rfl
theorem kZ3_a {c : E} : kZ3 C c ρ x y h1 = (evE C c ρ h1).bind (kZ4 x y) := rfl
theorem kZ4_a {xs ys zs : List D} (e : (xs.length = ys.length ∧ ys.length = zs.length)) : kZ4 (.d (.tup xs)) (.d (.tup ys)) (.d (.tup zs)) h1 = .ok (Src.fix ((xs.zip (ys.zip zs)).map fun p => .tup [p.1, p.2.1, p.2.2])) h1 := by
  unfold kZ4; exact if_pos e
/-! f-strings -/
def kFs (s : Str) (h1 : AH) : R Tm := .ok (.d (.str s)) h1
theorem kFs_a {s : Str} : kFs s h1 = .ok (.d (.str s)) h1 := rfl
theorem q_fstr {es : Es} : evE C (.fstr es) ρ h = (evF C es Str.empty ρ h).bind kFs := rfl
theorem q_nilF {acc : Str} : evF C .nil acc ρ h = .ok acc h := rfl
def kF (C : Cfg) (es : Es) (acc : Str) (ρ : Sl) (t : Tm) (h1 : AH) : R Str := match t with
  | .d (.str y) => if (acc ++ y).length ≤ sizeLine then evF C es (acc ++ y) ρ h1 else .err
  | _ => .err
theorem q_consF {e : E} {es : Es} {acc : Str} : evF C (.cons e es) acc ρ h = (evE C e ρ h).bind (kF C es acc ρ) := rfl
theorem kF_a {es : Es} {acc y : Str} (e : ((acc ++ y).length ≤ sizeLine) = True) : kF C es acc ρ (.d (.str y)) h1 = evF C es (acc ++ y) ρ h1 := by
  unfold kF; exact if_pos (of_eq_true e)
def kFmO (o : Option Str) (h1 : AH) : R Tm := match o with
  | some s => .ok (.d (.str s)) h1
  | none => .err
theorem kFmO_a {s : Str} : kFmO (some s) h1 = .ok (.d (.str s)) h1 := rfl
def kFm (x : Tm) (h1 : AH) : R Tm := kFmO (fmtT x) h1
theorem kFm_a : kFm x h1 = kFmO (fmtT x) h1 := rfl
theorem q_fmt {a : E} : evE C (.fmt a) ρ h = (evE C a ρ h).bind kFm := rfl
/-! methods, slices, heard -/
def kMe2 (m : Str) (x : Tm) (ts : List Tm) (h2 : AH) : R Tm := methT m x ts h2
theorem kMe2_a {m : Str} {ts : List Tm} : kMe2 m x ts h1 = methT m x ts h1 := rfl
def kMe1 (C : Cfg) (m : Str) (as : Es) (ρ : Sl) (x : Tm) (b : Bool) (h1 : AH) : R Tm := if b then (evEs C as ρ h1).bind (kMe2 m x) else .err
def kMe (C : Cfg) (m : Str) (as : Es) (ρ : Sl) (x : Tm) (h1 : AH) : R Tm := kMe1 C m as ρ x (recvOk m x h1) h1
theorem kMe_a {m : Str} {as : Es} : kMe C m as ρ x h1 = kMe1 C m as ρ x (recvOk m x h1) h1 := rfl
theorem kMe_b {m : Str} {as : Es} : kMe1 C m as ρ x true h1 = (evEs C as ρ h1).bind (kMe2 m x) := rfl
theorem q_meth {m : Str} {o : E} {as : Es} : evE C (.meth m o as) ρ h = (evE C o ρ h).bind (kMe C m as ρ) := rfl
theorem q_noO : evO C .no ρ h = .ok none h := rfl
def kOi (x : Tm) (h1 : AH) : R (Option Int) := match optI x with | some i => .ok (some i) h1 | none => .err
theorem kOi_a {i : Int} : kOi (.d (.int i)) h1 = .ok (some i) h1 := rfl
theorem q_yesO {e : E} : evO C (.yes e) ρ h = (evE C e ρ h).bind kOi := rfl
def kSl3 (x : Tm) (l : Option Int) (u : Option Int) (h3 : AH) : R Tm := slT x l u h3
theorem kSl3_a {l u : Option Int} : kSl3 x l u h1 = slT x l u h1 := rfl
def kSl2 (C : Cfg) (hi : Op) (ρ : Sl) (x : Tm) (l : Option Int) (h2 : AH) : R Tm := (evO C hi ρ h2).bind (kSl3 x l)
theorem kSl2_a {hi : Op} {l : Option Int} : kSl2 C hi ρ x l h1 = (evO C hi ρ h1).bind (kSl3 x l) := rfl
def kSl (C : Cfg) (lo hi : Op) (ρ : Sl) (x : Tm) (h1 : AH) : R Tm := (evO C lo ρ h1).bind (kSl2 C hi ρ x)
theorem kSl_a {lo hi : Op} : kSl C lo hi ρ x h1 = (evO C lo ρ h1).bind (kSl2 C hi ρ x) := rfl
theorem q_sl {a : E} {lo hi : Op} : evE C (.sl a lo hi) ρ h = (evE C a ρ h).bind (kSl C lo hi ρ) := rfl
def kRev (x : Tm) (h1 : AH) : R Tm := revT x h1
theorem kRev_a : kRev x h1 = revT x h1 := rfl
theorem q_rev {a : E} : evE C (.rev a) ρ h = (evE C a ρ h).bind kRev := rfl
def kHd (cs : List Str) (r : R Tm) : R Tm := match r with
  | .ok t h1 => .ok (.d (.tup [.str "told", (nam t h1).1])) (nam t h1).2
  | .exc c w h1 => if c ∈ cs then .ok (.d (.tup [.str c, w])) h1 else .err
  | .err => .err
theorem q_heard {cs : List Str} {e : E} : evE C (.heard cs e) ρ h = kHd cs (evE C e ρ h) := by
  show (match evE C e ρ h with
      | .ok t h1 => R.ok (Tm.d (.tup [.str "told", (nam t h1).1])) (nam t h1).2
      | .exc c w h1 => if c ∈ cs then .ok (.d (.tup [.str c, w])) h1 else .err
      | .err => .err) = _
  rfl
theorem kHd_ok {cs : List Str} : kHd cs (.ok x h1) = .ok (.d (.tup [.str "told", (nam x h1).1])) (nam x h1).2 := rfl
theorem kHd_exc {cs : List Str} {c : Str} {w : D} (e : (c ∈ cs) = True) : kHd cs (.exc c w h1) = .ok (.d (.tup [.str c, w])) h1 := if_pos (of_eq_true e)
/-! statements -/
def kPa2 (i j : Nat) (ρ : Sl) (x y : Tm) (h2 : AH) : O := .nx ((ρ.set i (some (nam x h2).1)).set j (some (nam y (nam x h2).2).1)) (nam y (nam x h2).2).2
theorem kPa2_a {i j : Nat} : kPa2 i j ρ x y h1 = .nx ((ρ.set i (some (nam x h1).1)).set j (some (nam y (nam x h1).2).1)) (nam y (nam x h1).2).2 := rfl
def kPa (C : Cfg) (i j : Nat) (b : E) (ρ : Sl) (x : Tm) (h1 : AH) : O := (evE C b ρ h1).out (kPa2 i j ρ x)
theorem kPa_a {i j : Nat} {b : E} : kPa C i j b ρ x h1 = (evE C b ρ h1).out (kPa2 i j ρ x) := rfl
theorem q_par {i j : Nat} {a b : E} : evS C wf (.par i j a b) ρ h = (evE C a ρ h).out (kPa C i j b ρ) := rfl
theorem q_clr {i : Nat} : evS C wf (.clr i) ρ h = .nx (ρ.set i none) h := rfl
theorem q_retN : evS C wf .retN ρ h = .rt (.d .non) h := rfl
theorem q_pass : evS C wf .pass ρ h = .nx ρ h := rfl
theorem q_brk : evS C wf .brk ρ h = .bk ρ h := rfl
theorem q_cnt : evS C wf .cnt ρ h = .ct ρ h := rfl
end
/-! ### loops -/
/-- a loop whose state at turn i is known, up to the first turn that ends it -/
theorem forL_scan {s : Src} {step : D → Sl → AH → O} {n : Nat} (st : Nat → Sl) (hh : Nat → AH) (it : Nat → D) (bad : Nat → Option O)
    (hg : ∀ i, i < n → s.get (hh i) i = some (it i)) (hf : s.fin (hh n) = true)
    (hs : ∀ i, i < n → (∀ j, j < i → bad j = none) → bad i = none → step (it i) (st i) (hh i) = .nx (st (i + 1)) (hh (i + 1)))
    (hb : ∀ i o, i < n → (∀ j, j < i → bad j = none) → bad i = some o → step (it i) (st i) (hh i) = o ∧ ((∃ t h, o = .rt t h) ∨ ∃ c w h, o = .exc c w h)) :
    ∀ k i, i + k = n → (∀ j, j < i → bad j = none) → forL s step k i (st i) (hh i) = match (List.range' i k).findSome? bad with | some o => o | none => .nx (st n) (hh n)
  | 0, i, e, _ => by
    have : i = n := by omega
    subst this
    unfold forL
    rw [if_pos hf]; rfl
  | k + 1, i, e, hp => by
    have hi : i < n := by omega
    unfold forL
    rw [hg i hi, List.range'_succ, List.findSome?_cons]
    cases q : bad i with
    | none =>
      simp only [hs i hi hp q]
      exact forL_scan st hh it bad hg hf hs hb k (i + 1) (by omega) (fun j hj => by
        by_cases z : j = i
        · rw [z]; exact q
        · exact hp j (by omega))
    | some o =>
      obtain ⟨e1, e2⟩ := hb i o hi hp q
      simp only [e1]
      rcases e2 with ⟨t, h, rfl⟩ | ⟨c, w, h, rfl⟩ <;> rfl
/-- a loop with an invariant: it ends at its end, or as a turn ends it -/
theorem forL_inv {s : Src} {step : D → Sl → AH → O} {n : Nat} (I : Nat → Sl → AH → Prop) (T : O → Prop)
    (hs : ∀ i ρ h, i < n → I i ρ h → ∃ d, s.get h i = some d ∧ ((∃ ρ1 h1, step d ρ h = .nx ρ1 h1 ∧ I (i + 1) ρ1 h1) ∨ (∃ t h1, step d ρ h = .rt t h1 ∧ T (.rt t h1))))
    (hf : ∀ ρ h, I n ρ h → s.fin h = true ∧ T (.nx ρ h)) :
    ∀ k i ρ h, i + k = n → I i ρ h → T (forL s step k i ρ h)
  | 0, i, ρ, h, e, hI => by
    have : i = n := by omega
    subst this
    unfold forL
    rw [if_pos (hf _ _ hI).1]; exact (hf _ _ hI).2
  | k + 1, i, ρ, h, e, hI => by
    obtain ⟨d, e1, e2⟩ := hs i ρ h (by omega) hI
    unfold forL
    rw [e1]
    rcases e2 with ⟨ρ1, h1, e2, I1⟩ | ⟨t, h1, e2, e3⟩
    · simp only [e2]
      exact forL_inv I T hs hf k (i + 1) ρ1 h1 (by omega) I1
    · simp only [e2]; exact e3
/-- a comprehension's loop with an invariant of the heap -/
theorem compL_inv {s : Src} {step : D → AH → R (Option D)} {n : Nat} (I : AH → Prop) (P : D → Prop)
    (hs : ∀ i h, i < n → I h → ∃ d y h1, s.get h i = some d ∧ step d h = .ok (some y) h1 ∧ P y ∧ I h1) (hf : ∀ h, I h → s.fin h = true) :
    ∀ k i acc h, i + k = n → acc.length + k ≤ sizeLine → I h → (∀ y ∈ acc, P y) → ∃ ds h1, compL s step k i acc h = .ok (.l ds) h1 ∧ ds.length = acc.length + k ∧ (∀ y ∈ ds, P y) ∧ I h1
  | 0, i, acc, h, e, hl, hI, hP => by
    unfold compL
    rw [if_pos (hf h hI)]
    exact ⟨acc, h, rfl, rfl, hP, hI⟩
  | k + 1, i, acc, h, e, hl, hI, hP => by
    obtain ⟨d, y, h1, e1, e2, e3, e4⟩ := hs i h (by omega) hI
    unfold compL
    rw [e1]
    simp only [e2]
    rw [if_pos (by omega)]
    obtain ⟨ds, h2, q1, q2, q3, q4⟩ := compL_inv I P hs hf k (i + 1) (acc ++ [y]) h1 (by omega) (by rw [List.length_append]; simp; omega) e4 (fun z hz => by
      rcases List.mem_append.mp hz with hz | hz
      · exact hP z hz
      · rw [List.mem_singleton.mp hz]; exact e3)
    exact ⟨ds, h2, q1, by rw [q2, List.length_append]; simp; omega, q3, q4⟩
end Mill
namespace Mill
open PySem
/-! ### a loop turn by turn -/
section
variable {C : Cfg} {wf : Nat} {ρ ρ1 : Sl} {h h1 : AH} {s : Src} {step : D → Sl → AH → O} {k i : Nat}
def kFl (s : Src) (step : D → Sl → AH → O) (k i : Nat) (o : O) : O := match o with
  | .nx ρ1 h1 => forL s step k (i + 1) ρ1 h1
  | .ct ρ1 h1 => forL s step k (i + 1) ρ1 h1
  | .bk ρ1 h1 => .nx ρ1 h1
  | o => o
def kFg (s : Src) (step : D → Sl → AH → O) (k i : Nat) (ρ : Sl) (h : AH) (o : Option D) : O := match o with
  | none => .err
  | some x => kFl s step k i (step x ρ h)
theorem fl_succ : forL s step (k + 1) i ρ h = kFg s step k i ρ h (s.get h i) := (rfl)
theorem kFg_a {d : D} : kFg s step k i ρ h (some d) = kFl s step k i (step d ρ h) := (rfl)
theorem kFl_nx : kFl s step k i (.nx ρ1 h1) = forL s step k (i + 1) ρ1 h1 := (rfl)
theorem kFl_ct : kFl s step k i (.ct ρ1 h1) = forL s step k (i + 1) ρ1 h1 := (rfl)
theorem kFl_bk : kFl s step k i (.bk ρ1 h1) = .nx ρ1 h1 := (rfl)
theorem kFl_rt {t : Tm} : kFl s step k i (.rt t h1) = .rt t h1 := (rfl)
theorem kFl_exc {c : Str} {w : D} : kFl s step k i (.exc c w h1) = .exc c w h1 := (rfl)
theorem fl_zero (e : (s.fin h = true) = True) : forL s step 0 i ρ h = .nx ρ h := by unfold forL; exact if_pos (of_eq_true e)
def kBo (C : Cfg) (wf : Nat) (b : Ss) (h : AH) (o : Option Sl) : O := match o with
  | some ρ' => evSs C wf b ρ' h
  | none => .err
theorem kBody_e {t : Tg} {b : Ss} {d : D} : kBody C wf t b d ρ h = kBo C wf b h (setTg t d ρ) := by unfold kBody kBo; cases setTg t d ρ <;> rfl
theorem kBo_a {b : Ss} {ρ' : Sl} : kBo C wf b h (some ρ') = evSs C wf b ρ' h := (rfl)
theorem fix_len {ds : List D} : (Src.fix ds).len = ds.length := (rfl)
theorem fix_get {ds : List D} : (Src.fix ds).get h i = ds[i]? := (rfl)
theorem fix_fin {ds : List D} : (Src.fix ds).fin h = true := (rfl)
theorem src_tu {ds : List D} : srcT (.d (.tup ds)) h = some (.fix ds) := (rfl)
theorem src_ll {ds : List D} : srcT (.l ds) h = some (.fix ds) := (rfl)
end
end Mill

set_option Elab.async false
set_option linter.all false
set_option maxRecDepth 100000
set_option maxHeartbeats 4000000
/-! Pure6: plain data; names. -/
namespace K33
open PySem Mill HeadK
mutual
def plD : D → Bool
  | .non => true
  | .bl _ => true
  | .int _ => true
  | .str x => PyData.strOk x && decide (x.length ≤ 1000)
  | .tup ds => plDs ds
  | .ref _ => false
  | .fro _ => false
def plDs : List D → Bool
  | [] => true
  | d :: ds => plD d && plDs ds
end
theorem plDs_mem {d : D} : ∀ {ds : List D}, plDs ds = true → d ∈ ds → plD d = true
  | [], _, h => by cases h
  | e :: ds, hp, h => by
    unfold plDs at hp
    rw [Bool.and_eq_true] at hp
    rcases List.mem_cons.mp h with z | z
    · rw [z]; exact hp.1
    · exact plDs_mem hp.2 z
theorem plDs_of {ds : List D} (h : ∀ d ∈ ds, plD d = true) : plDs ds = true := by
  induction ds with
  | nil => simp [plDs]
  | cons d ds ih =>
    unfold plDs
    rw [Bool.and_eq_true]
    exact ⟨h _ (List.mem_cons_self), ih fun d hd => h d (List.mem_cons_of_mem _ hd)⟩
mutual
theorem below_pl {n : Nat} : ∀ {d : D}, plD d = true → below n d = true
  | .non, _ => by simp [below]
  | .bl _, _ => by simp [below]
  | .int _, _ => by simp [below]
  | .str _, _ => by simp [below]
  | .tup ds, h => by unfold below; exact belows_pl (by unfold plD at h; exact h)
  | .ref _, h => by simp [plD] at h
  | .fro _, h => by simp [plD] at h
theorem belows_pl {n : Nat} : ∀ {ds : List D}, plDs ds = true → belows n ds = true
  | [], _ => by simp [belows]
  | d :: ds, h => by
    unfold plDs at h
    rw [Bool.and_eq_true] at h
    unfold belows
    rw [Bool.and_eq_true]
    exact ⟨below_pl h.1, belows_pl h.2⟩
end
/-- plain, or a list that stands -/
def Va (d : D) (h : AH) : Prop := plD d = true ∨ ∃ n ds, d = .ref n ∧ h[n]? = some (.lst ds)
theorem Va.vd {d : D} {h : AH} (v : Va d h) : Vd d h := by
  rcases v with v | ⟨n, ds, rfl, e⟩
  · cases d with
    | ref n => simp [plD] at v
    | fro n => simp [plD] at v
    | _ => rfl
  · unfold Vd tyT
    simp only [viewL, viewM, e]; rfl
theorem Va.pl_of {d : D} {h : AH} (v : Va d h) (hd : ∀ n, d ≠ .ref n) : plD d = true := by
  rcases v with v | ⟨n, ds, e, _⟩
  · exact v
  · exact absurd e (hd n)
theorem Vd_pl {d : D} {h : AH} (v : plD d = true) : Vd d h := Va.vd (.inl v)
theorem hat0 {h : AH} {c : Cell} : (h ++ [c])[h.length]? = some c := by simp
theorem hset0 {h : AH} {c d : Cell} : (h ++ [c]).set h.length d = h ++ [d] := by simp
/-! ### one name -/
def LET : Str := "abcdefghijklmnopqrstuvwxyz"
def okS (x : Str) : Bool := !(Builtin.Str.occurrences LET x 0 LET.length 1).isEmpty
def okL (c : Nat) : Bool := okS ⟨#[c]⟩
def sgn (c : Nat) : D := .str ⟨#[c]⟩
def okD (d : D) : Bool := match d with | .str x => okS x | _ => false
theorem in_let {x : Str} {h : AH} : cmpR .In (.d (.str x)) (.d (.str LET)) h = .ok (.d (.bl (okS x))) h := rfl
theorem notin_let {x : Str} {h : AH} : cmpR .NotIn (.d (.str x)) (.d (.str LET)) h = .ok (.d (.bl (!okS x))) h := rfl
theorem pyD_str {x : Str} : pyD (.str x) = some (.str x) := by unfold pyD; rfl
theorem eq_str {x y : Str} {h : AH} (hx : PyData.strOk x = true) (hy : PyData.strOk y = true) : eqT (.d (.str x)) (.d (.str y)) h = some (x == y) := by
  have s : ∀ x : Str, PyData.strOk x = true → SeqAt.shaped (.str x) = true := fun x hx => by
    unfold SeqAt.shaped PyData.canLay0
    rw [hx]; simp [PyData.depth]
  unfold eqT pyT
  simp only [pyD_str, s x hx, s y hy, Bool.and_self, if_true, PyData.eqv]
theorem c_eqs {x y : Str} {h : AH} (hx : PyData.strOk x = true) (hy : PyData.strOk y = true) : cmpR .Eq (.d (.str x)) (.d (.str y)) h = .ok (.d (.bl (x == y))) h := by
  unfold cmpR cmpT; simp only [eq_str hx hy]
theorem c_nes {x y : Str} {h : AH} (hx : PyData.strOk x = true) (hy : PyData.strOk y = true) : cmpR .NotEq (.d (.str x)) (.d (.str y)) h = .ok (.d (.bl (!(x == y)))) h := by
  unfold cmpR cmpT; simp only [eq_str hx hy]; rfl
def nameB (x : Str) : Bool := decide (1 ≤ x.length) && (decide (x.length ≤ 12) && (!(x == "none") && x.cps.toList.all okL))
def nmB (d : D) : Bool := match d with | .str x => nameB x | _ => false
theorem b_lens {x : Str} {h : AH} (e : x.length ≤ 1000) : biT "len" [.d (.str x)] h = .ok (.d (.int x.length)) h := by
  have : biT "len" [.d (.str x)] h = biLen [.d (.str x)] h := by kernel_rfl
  rw [this]; unfold biLen
  simp only
  rw [if_pos (by rw [sizeLine_eq]; omega)]
def strSrc (x : Str) : Src := .fix (x.cps.toList.map sgn)
theorem src_str {x : Str} {h : AH} : srcT (.d (.str x)) h = some (strSrc x) := rfl
theorem bls_map {α : Type} (g : α → Bool) (l : List α) : bls? (l.map fun a => D.bl (g a)) = some (l.map g) := by
  induction l with
  | nil => rfl
  | cons a l ih => simp [bls?, ih]
theorem b_all {α : Type} (g : α → Bool) (l : List α) {h : AH} : biT "all" [.l (l.map fun a => D.bl (g a))] h = .ok (.d (.bl (l.all g))) h := by
  have : biT "all" [.l (l.map fun a => D.bl (g a))] h = biAll [.l (l.map fun a => D.bl (g a))] h := by kernel_rfl
  rw [this]; unfold biAll
  simp only [viewL, viewM, bls_map, List.all_map]
  rfl
theorem glob_at {x : Str} {d : D} (e : Pg.glob x = some d) : Pg.glob x = some d := e
theorem g_letters : Pg.glob "MOST_LETTERS" = some (.int 12) := by kernel_rfl
theorem g_noname : Pg.glob "NO_NAME" = some (.str "none") := by kernel_rfl
theorem g_let : Pg.glob "LETTERS" = some (.str LET) := by kernel_rfl
theorem g_names : Pg.glob "MOST_NAMES" = some (.int 60) := by kernel_rfl
theorem g_spelt : Pg.glob "MOST_SPELT" = some (.int (10 ^ 20 - 1)) := by kernel_rfl
theorem plD_str {x : Str} (hp : plD (.str x) = true) : PyData.strOk x = true ∧ x.length ≤ 1000 := by
  unfold plD at hp
  rw [Bool.and_eq_true] at hp
  exact ⟨hp.1, of_decide_eq_true hp.2⟩
theorem none_ok : PyData.strOk "none" = true := by decide +kernel
theorem cps_len {x : Str} : x.cps.toList.length = x.length := by unfold Str.length; simp
theorem is_name_ok {wf k : Nat} {d : D} {h : AH} (hv : Va d h) : callF Pg wf (k + 1) "is_name" [.d d] h = .ok (.d (.bl (nmB d))) h := by
  refine call_rt (ds := [d]) fn_is_name rfl ?_ rfl
  show evSs (cfg Pg wf k) wf b_is_name [some d, none] h = _
  have no : isStr d = false → nmB d = false := by intro e; cases d <;> first | rfl | cases e
  cases hs : isStr d with
  | false =>
    simp -implicitDefEqProofs only [b_is_name, q_cons, q_nil, q_ite, kIte_a, kTw_t, kTw_f, q_set, kSet_a, kSo_a, q_setIx, kX1_a, kX2_a, kX3_a, kXo_a, q_ret, kRet_a, q_ex, kEx_a, q_raise, kRaise_a, q_ife, kIfe_a, kTe_t, kTe_f, q_and, kAnd_a, kAo_t, kAo_f, q_or, kOr_a, kOo_t, kOo_f, q_not, kNot_a, kNo_a, q_var, kVo_a, q_glob, kGo_a, q_int, q_bl, q_non, q_str, q_bin, kBin_a, kBin2_a, q_cmp, kCmp_a, kCmp2_a, q_ix, kIx_a, kIx2_a, q_neg, kNg_a, q_tup, kTup_b, q_lst, kLst_b, q_call, kCall_a, q_bi, kBi_a, q_isin, kIs_b, kIsO_a, q_consE, q_nilE, kEs_a, kEs2_a, q_chn, kC2_a, kC3_a, kC4_t, kC4_f, q_noC, q_yesC, kTr_a, kTb_a, kSome_a, kSt_t, kSt_f, q_comp, q_seq, kSeq_a, kSo2_a, q_for, kFor_a, q_rng1, kRng_a, q_enum, kEnum_a, q_fstr, kFs_a, q_consF, q_nilF, kF_a, q_fmt, kFm_a, kFmO_a, q_meth, kMe_a, kMe_b, kMe2_a, q_sl, kSl_a, kSl2_a, kSl3_a, q_rev, kRev_a, q_heard, kHd_ok, kHd_exc, q_par, kPa_a, kPa2_a, q_clr, q_noO, q_yesO, kOi_a, q_retN, q_pass, q_brk, q_cnt, R.bind_ok, R.out_ok, R.bind_exc, R.out_exc, sq_nx, sq_rt, sq_exc, sq_bk, sq_ct, t_bl, nam_d, nam_l, namAll_nil, namAll_cons, List.getElem?_cons_zero, List.getElem?_cons_succ, List.set_cons_zero, List.set_cons_succ, setTg_nm, List.length_cons, List.length_nil, Nat.reduceAdd, Nat.reduceLeDiff, Nat.zero_add, if_true, if_false, Bool.not_true, Bool.not_false, call_cfg, glob_cfg, isT_str hv.vd, hs, no hs]
  | true =>
    cases d with
    | str x =>
      have hp := hv.pl_of (by intro n z; cases z)
      obtain ⟨ok, hl⟩ := plD_str hp
      by_cases h1 : (1 : Int) ≤ x.length
      · by_cases h2 : (x.length : Int) ≤ 12
        · cases h3 : (x == ("none" : Str)) with
          | true =>
            have e : nmB (.str x) = false := by unfold nmB nameB; simp [h3]
            simp -implicitDefEqProofs only [b_is_name, q_cons, q_nil, q_ite, kIte_a, kTw_t, kTw_f, q_set, kSet_a, kSo_a, q_setIx, kX1_a, kX2_a, kX3_a, kXo_a, q_ret, kRet_a, q_ex, kEx_a, q_raise, kRaise_a, q_ife, kIfe_a, kTe_t, kTe_f, q_and, kAnd_a, kAo_t, kAo_f, q_or, kOr_a, kOo_t, kOo_f, q_not, kNot_a, kNo_a, q_var, kVo_a, q_glob, kGo_a, q_int, q_bl, q_non, q_str, q_bin, kBin_a, kBin2_a, q_cmp, kCmp_a, kCmp2_a, q_ix, kIx_a, kIx2_a, q_neg, kNg_a, q_tup, kTup_b, q_lst, kLst_b, q_call, kCall_a, q_bi, kBi_a, q_isin, kIs_b, kIsO_a, q_consE, q_nilE, kEs_a, kEs2_a, q_chn, kC2_a, kC3_a, kC4_t, kC4_f, q_noC, q_yesC, kTr_a, kTb_a, kSome_a, kSt_t, kSt_f, q_comp, q_seq, kSeq_a, kSo2_a, q_for, kFor_a, q_rng1, kRng_a, q_enum, kEnum_a, q_fstr, kFs_a, q_consF, q_nilF, kF_a, q_fmt, kFm_a, kFmO_a, q_meth, kMe_a, kMe_b, kMe2_a, q_sl, kSl_a, kSl2_a, kSl3_a, q_rev, kRev_a, q_heard, kHd_ok, kHd_exc, q_par, kPa_a, kPa2_a, q_clr, q_noO, q_yesO, kOi_a, q_retN, q_pass, q_brk, q_cnt, R.bind_ok, R.out_ok, R.bind_exc, R.out_exc, sq_nx, sq_rt, sq_exc, sq_bk, sq_ct, t_bl, nam_d, nam_l, namAll_nil, namAll_cons, List.getElem?_cons_zero, List.getElem?_cons_succ, List.set_cons_zero, List.set_cons_succ, setTg_nm, List.length_cons, List.length_nil, Nat.reduceAdd, Nat.reduceLeDiff, Nat.zero_add, if_true, if_false, Bool.not_true, Bool.not_false, call_cfg, glob_cfg, isT_str (Vd_pl hp), hs, b_lens hl, c_le, decide_eq_true h1, decide_eq_true h2, g_letters, g_noname, c_eqs ok none_ok, h3, e]
          | false =>
            have e : nmB (.str x) = x.cps.toList.all okL := by
              unfold nmB nameB
              simp only [h3, Bool.not_false, Bool.true_and]
              rw [decide_eq_true (by omega), decide_eq_true (by omega)]; simp
            have st : ∀ d ∈ x.cps.toList.map sgn, kStep (cfg Pg wf k) (.cmp .In (.var 1) (.glob "LETTERS")) (.nm 1) .no [some (.str x), none] d h = .ok (some (.bl (okD d))) h := fun d hd => by
              obtain ⟨c, _, rfl⟩ := List.mem_map.mp hd
              rw [kStep_a setTg_nm]
              simp -implicitDefEqProofs only [q_cons, q_nil, q_ite, kIte_a, kTw_t, kTw_f, q_set, kSet_a, kSo_a, q_setIx, kX1_a, kX2_a, kX3_a, kXo_a, q_ret, kRet_a, q_ex, kEx_a, q_raise, kRaise_a, q_ife, kIfe_a, kTe_t, kTe_f, q_and, kAnd_a, kAo_t, kAo_f, q_or, kOr_a, kOo_t, kOo_f, q_not, kNot_a, kNo_a, q_var, kVo_a, q_glob, kGo_a, q_int, q_bl, q_non, q_str, q_bin, kBin_a, kBin2_a, q_cmp, kCmp_a, kCmp2_a, q_ix, kIx_a, kIx2_a, q_neg, kNg_a, q_tup, kTup_b, q_lst, kLst_b, q_call, kCall_a, q_bi, kBi_a, q_isin, kIs_b, kIsO_a, q_consE, q_nilE, kEs_a, kEs2_a, q_chn, kC2_a, kC3_a, kC4_t, kC4_f, q_noC, q_yesC, kTr_a, kTb_a, kSome_a, kSt_t, kSt_f, q_comp, q_seq, kSeq_a, kSo2_a, q_for, kFor_a, q_rng1, kRng_a, q_enum, kEnum_a, q_fstr, kFs_a, q_consF, q_nilF, kF_a, q_fmt, kFm_a, kFmO_a, q_meth, kMe_a, kMe_b, kMe2_a, q_sl, kSl_a, kSl2_a, kSl3_a, q_rev, kRev_a, q_heard, kHd_ok, kHd_exc, q_par, kPa_a, kPa2_a, q_clr, q_noO, q_yesO, kOi_a, q_retN, q_pass, q_brk, q_cnt, R.bind_ok, R.out_ok, R.bind_exc, R.out_exc, sq_nx, sq_rt, sq_exc, sq_bk, sq_ct, t_bl, nam_d, nam_l, namAll_nil, namAll_cons, List.getElem?_cons_zero, List.getElem?_cons_succ, List.set_cons_zero, List.set_cons_succ, setTg_nm, List.length_cons, List.length_nil, Nat.reduceAdd, Nat.reduceLeDiff, Nat.zero_add, if_true, if_false, Bool.not_true, Bool.not_false, call_cfg, glob_cfg, g_let, sgn, in_let, okD]
            have cf := comp_fix (C := cfg Pg wf k) (ρ := [some (.str x), none]) (h := h) (elt := .cmp .In (.var 1) (.glob "LETTERS")) (tg := .nm 1) (c := .no) (f := fun d => some (.bl (okD d))) (s := strSrc x) (x.cps.toList.map sgn) (fun i _ => rfl) rfl rfl (by rw [List.length_map, cps_len]; omega) st
            have fm : (x.cps.toList.map sgn).filterMap (fun d => some (D.bl (okD d))) = x.cps.toList.map fun c => D.bl (okL c) := by
              rw [List.filterMap_eq_map']; simp [sgn, okD, okL]
            rw [fm] at cf
            simp -implicitDefEqProofs only [b_is_name, q_cons, q_nil, q_ite, kIte_a, kTw_t, kTw_f, q_set, kSet_a, kSo_a, q_setIx, kX1_a, kX2_a, kX3_a, kXo_a, q_ret, kRet_a, q_ex, kEx_a, q_raise, kRaise_a, q_ife, kIfe_a, kTe_t, kTe_f, q_and, kAnd_a, kAo_t, kAo_f, q_or, kOr_a, kOo_t, kOo_f, q_not, kNot_a, kNo_a, q_var, kVo_a, q_glob, kGo_a, q_int, q_bl, q_non, q_str, q_bin, kBin_a, kBin2_a, q_cmp, kCmp_a, kCmp2_a, q_ix, kIx_a, kIx2_a, q_neg, kNg_a, q_tup, kTup_b, q_lst, kLst_b, q_call, kCall_a, q_bi, kBi_a, q_isin, kIs_b, kIsO_a, q_consE, q_nilE, kEs_a, kEs2_a, q_chn, kC2_a, kC3_a, kC4_t, kC4_f, q_noC, q_yesC, kTr_a, kTb_a, kSome_a, kSt_t, kSt_f, q_comp, q_seq, kSeq_a, kSo2_a, q_for, kFor_a, q_rng1, kRng_a, q_enum, kEnum_a, q_fstr, kFs_a, q_consF, q_nilF, kF_a, q_fmt, kFm_a, kFmO_a, q_meth, kMe_a, kMe_b, kMe2_a, q_sl, kSl_a, kSl2_a, kSl3_a, q_rev, kRev_a, q_heard, kHd_ok, kHd_exc, q_par, kPa_a, kPa2_a, q_clr, q_noO, q_yesO, kOi_a, q_retN, q_pass, q_brk, q_cnt, R.bind_ok, R.out_ok, R.bind_exc, R.out_exc, sq_nx, sq_rt, sq_exc, sq_bk, sq_ct, t_bl, nam_d, nam_l, namAll_nil, namAll_cons, List.getElem?_cons_zero, List.getElem?_cons_succ, List.set_cons_zero, List.set_cons_succ, setTg_nm, List.length_cons, List.length_nil, Nat.reduceAdd, Nat.reduceLeDiff, Nat.zero_add, if_true, if_false, Bool.not_true, Bool.not_false, call_cfg, glob_cfg, isT_str (Vd_pl hp), hs, b_lens hl, c_le, decide_eq_true h1, decide_eq_true h2, g_letters, g_noname, c_eqs ok none_ok, h3, e, src_str, cf, b_all]
        · have e : nmB (.str x) = false := by
            unfold nmB nameB
            simp only
            rw [decide_eq_false (p := x.length ≤ 12) (by omega)]; simp
          simp -implicitDefEqProofs only [b_is_name, q_cons, q_nil, q_ite, kIte_a, kTw_t, kTw_f, q_set, kSet_a, kSo_a, q_setIx, kX1_a, kX2_a, kX3_a, kXo_a, q_ret, kRet_a, q_ex, kEx_a, q_raise, kRaise_a, q_ife, kIfe_a, kTe_t, kTe_f, q_and, kAnd_a, kAo_t, kAo_f, q_or, kOr_a, kOo_t, kOo_f, q_not, kNot_a, kNo_a, q_var, kVo_a, q_glob, kGo_a, q_int, q_bl, q_non, q_str, q_bin, kBin_a, kBin2_a, q_cmp, kCmp_a, kCmp2_a, q_ix, kIx_a, kIx2_a, q_neg, kNg_a, q_tup, kTup_b, q_lst, kLst_b, q_call, kCall_a, q_bi, kBi_a, q_isin, kIs_b, kIsO_a, q_consE, q_nilE, kEs_a, kEs2_a, q_chn, kC2_a, kC3_a, kC4_t, kC4_f, q_noC, q_yesC, kTr_a, kTb_a, kSome_a, kSt_t, kSt_f, q_comp, q_seq, kSeq_a, kSo2_a, q_for, kFor_a, q_rng1, kRng_a, q_enum, kEnum_a, q_fstr, kFs_a, q_consF, q_nilF, kF_a, q_fmt, kFm_a, kFmO_a, q_meth, kMe_a, kMe_b, kMe2_a, q_sl, kSl_a, kSl2_a, kSl3_a, q_rev, kRev_a, q_heard, kHd_ok, kHd_exc, q_par, kPa_a, kPa2_a, q_clr, q_noO, q_yesO, kOi_a, q_retN, q_pass, q_brk, q_cnt, R.bind_ok, R.out_ok, R.bind_exc, R.out_exc, sq_nx, sq_rt, sq_exc, sq_bk, sq_ct, t_bl, nam_d, nam_l, namAll_nil, namAll_cons, List.getElem?_cons_zero, List.getElem?_cons_succ, List.set_cons_zero, List.set_cons_succ, setTg_nm, List.length_cons, List.length_nil, Nat.reduceAdd, Nat.reduceLeDiff, Nat.zero_add, if_true, if_false, Bool.not_true, Bool.not_false, call_cfg, glob_cfg, isT_str (Vd_pl hp), hs, b_lens hl, c_le, decide_eq_true h1, decide_eq_false h2, g_letters, e]
      · have e : nmB (.str x) = false := by
          unfold nmB nameB
          simp only
          rw [decide_eq_false (p := 1 ≤ x.length) (by omega)]; simp
        simp -implicitDefEqProofs only [b_is_name, q_cons, q_nil, q_ite, kIte_a, kTw_t, kTw_f, q_set, kSet_a, kSo_a, q_setIx, kX1_a, kX2_a, kX3_a, kXo_a, q_ret, kRet_a, q_ex, kEx_a, q_raise, kRaise_a, q_ife, kIfe_a, kTe_t, kTe_f, q_and, kAnd_a, kAo_t, kAo_f, q_or, kOr_a, kOo_t, kOo_f, q_not, kNot_a, kNo_a, q_var, kVo_a, q_glob, kGo_a, q_int, q_bl, q_non, q_str, q_bin, kBin_a, kBin2_a, q_cmp, kCmp_a, kCmp2_a, q_ix, kIx_a, kIx2_a, q_neg, kNg_a, q_tup, kTup_b, q_lst, kLst_b, q_call, kCall_a, q_bi, kBi_a, q_isin, kIs_b, kIsO_a, q_consE, q_nilE, kEs_a, kEs2_a, q_chn, kC2_a, kC3_a, kC4_t, kC4_f, q_noC, q_yesC, kTr_a, kTb_a, kSome_a, kSt_t, kSt_f, q_comp, q_seq, kSeq_a, kSo2_a, q_for, kFor_a, q_rng1, kRng_a, q_enum, kEnum_a, q_fstr, kFs_a, q_consF, q_nilF, kF_a, q_fmt, kFm_a, kFmO_a, q_meth, kMe_a, kMe_b, kMe2_a, q_sl, kSl_a, kSl2_a, kSl3_a, q_rev, kRev_a, q_heard, kHd_ok, kHd_exc, q_par, kPa_a, kPa2_a, q_clr, q_noO, q_yesO, kOi_a, q_retN, q_pass, q_brk, q_cnt, R.bind_ok, R.out_ok, R.bind_exc, R.out_exc, sq_nx, sq_rt, sq_exc, sq_bk, sq_ct, t_bl, nam_d, nam_l, namAll_nil, namAll_cons, List.getElem?_cons_zero, List.getElem?_cons_succ, List.set_cons_zero, List.set_cons_succ, setTg_nm, List.length_cons, List.length_nil, Nat.reduceAdd, Nat.reduceLeDiff, Nat.zero_add, if_true, if_false, Bool.not_true, Bool.not_false, call_cfg, glob_cfg, isT_str (Vd_pl hp), hs, b_lens hl, c_le, decide_eq_false h1, e]
    | _ => cases hs
/-! ### comparisons of flat rows -/
def flB (d : D) : Bool := match d with | .str x => PyData.strOk x | .int _ => true | .bl _ => true | .non => true | _ => false
theorem pyDs_flat : ∀ {ds : List D}, (∀ d ∈ ds, flB d = true) → ∃ as, pyDs ds = some as ∧ PyData.canLayAll0 as = true ∧ PyData.depthAll as = 0 ∧ as.isEmpty = ds.isEmpty
  | [], _ => ⟨[], by simp [pyDs], by simp [PyData.canLayAll0], by simp [PyData.depthAll], rfl⟩
  | d :: ds, h => by
    obtain ⟨as, e1, e2, e3, _⟩ := pyDs_flat (ds := ds) fun d hd => h d (List.mem_cons_of_mem _ hd)
    have hd := h d List.mem_cons_self
    have : ∃ a, pyD d = some a ∧ PyData.canLay0 a = true ∧ PyData.depth a = 0 := by
      cases d with
      | non => exact ⟨.none, by simp [pyD], by simp [PyData.canLay0], by simp [PyData.depth]⟩
      | bl b => exact ⟨.bool b, by simp [pyD], by simp [PyData.canLay0], by simp [PyData.depth]⟩
      | int b => exact ⟨.int b, by simp [pyD], by simp [PyData.canLay0], by simp [PyData.depth]⟩
      | str b => exact ⟨.str b, by simp [pyD], by simpa [PyData.canLay0, flB] using hd, by simp [PyData.depth]⟩
      | tup _ => cases hd
      | ref _ => cases hd
      | fro _ => cases hd
    obtain ⟨a, f1, f2, f3⟩ := this
    exact ⟨a :: as, by simp [pyDs, f1, e1], by simp [PyData.canLayAll0, f2, e2], by simp [PyData.depthAll, f3, e3], rfl⟩
theorem eq_nil {ds : List D} {h : AH} (hf : ∀ d ∈ ds, flB d = true) : eqT (.l ds) (.l []) h = some ds.isEmpty := by
  obtain ⟨as, e1, e2, e3, e4⟩ := pyDs_flat hf
  have s1 : SeqAt.shaped (.list as) = true := by
    unfold SeqAt.shaped
    simp [PyData.canLay0, PyData.depth, e2, e3]
  have s2 : SeqAt.shaped (.list []) = true := by decide +kernel
  have e0 : pyDs [] = some [] := by simp [pyDs]
  unfold eqT pyT
  simp only [e1, e0, Option.map_some, s1, s2, Bool.and_self, if_true]
  rw [← e4]
  cases as <;> simp [PyData.eqv, PyData.eqvAll]
theorem c_nil {ds : List D} {h : AH} (hf : ∀ d ∈ ds, flB d = true) : cmpR .Eq (.l ds) (.l []) h = .ok (.d (.bl ds.isEmpty)) h := by
  unfold cmpR cmpT; simp only [eq_nil hf]
theorem c_nnil {ds : List D} {h : AH} (hf : ∀ d ∈ ds, flB d = true) : cmpR .NotEq (.l ds) (.l []) h = .ok (.d (.bl (!ds.isEmpty))) h := by
  unfold cmpR cmpT; simp only [eq_nil hf]; rfl
theorem eq_unit {ds : List D} {h : AH} (hf : ∀ d ∈ ds, flB d = true) : eqT (.d (.tup ds)) (.d (.tup [])) h = some ds.isEmpty := by
  obtain ⟨as, e1, e2, e3, e4⟩ := pyDs_flat hf
  have s1 : SeqAt.shaped (.tuple as) = true := by
    unfold SeqAt.shaped
    simp [PyData.canLay0, PyData.depth, e2, e3]
  have s2 : SeqAt.shaped (.tuple []) = true := by decide +kernel
  have e0 : pyDs [] = some [] := by simp [pyDs]
  unfold eqT pyT
  simp only [pyD, e1, e0, Option.map_some, s1, s2, Bool.and_self, if_true]
  rw [← e4]
  cases as <;> simp [PyData.eqv, PyData.eqvAll]
theorem c_nunit {ds : List D} {h : AH} (hf : ∀ d ∈ ds, flB d = true) : cmpR .NotEq (.d (.tup ds)) (.d (.tup [])) h = .ok (.d (.bl (!ds.isEmpty))) h := by
  unfold cmpR cmpT; simp only [eq_unit hf]; rfl
theorem c_nei {i j : Int} {h : AH} : cmpR .NotEq (.d (.int i)) (.d (.int j)) h = .ok (.d (.bl (!(i == j)))) h := by
  have s : ∀ i : Int, SeqAt.shaped (.int i) = true := fun i => by
    unfold SeqAt.shaped; simp [PyData.canLay0, PyData.depth]
  unfold cmpR cmpT eqT pyT
  simp only [pyD, s, Bool.and_self, if_true, PyData.eqv, Option.map_some]
theorem c_eqi {i j : Int} {h : AH} : cmpR .Eq (.d (.int i)) (.d (.int j)) h = .ok (.d (.bl (i == j))) h := by
  have s : ∀ i : Int, SeqAt.shaped (.int i) = true := fun i => by
    unfold SeqAt.shaped; simp [PyData.canLay0, PyData.depth]
  unfold cmpR cmpT eqT pyT
  simp only [pyD, s, Bool.and_self, if_true, PyData.eqv]
theorem em_lem (l : List Nat) : ((l.map sgn).filterMap (fun d => if okD d then none else some d)).isEmpty = l.all okL := by
  induction l with
  | nil => rfl
  | cons c l ih =>
    simp only [List.map_cons, List.filterMap_cons, List.all_cons]
    have : okD (sgn c) = okL c := rfl
    rw [this]
    cases okL c
    · rfl
    · simpa using ih
theorem is_one_name_ok {wf k : Nat} {d : D} {h : AH} (hv : Va d h) : callF Pg wf (k + 2) "_law_is_one_name" [.d d] h = .ok (.d (.bl (nmB d))) h := by
  refine call_rt (ds := [d]) fn_law_is_one_name rfl ?_ rfl
  show evSs (cfg Pg wf (k + 1)) wf b_law_is_one_name [some d, none] h = _
  have no : isStr d = false → nmB d = false := by intro e; cases d <;> first | rfl | cases e
  cases hs : isStr d with
  | false =>
    simp -implicitDefEqProofs only [b_law_is_one_name, q_cons, q_nil, q_ite, kIte_a, kTw_t, kTw_f, q_set, kSet_a, kSo_a, q_setIx, kX1_a, kX2_a, kX3_a, kXo_a, q_ret, kRet_a, q_ex, kEx_a, q_raise, kRaise_a, q_ife, kIfe_a, kTe_t, kTe_f, q_and, kAnd_a, kAo_t, kAo_f, q_or, kOr_a, kOo_t, kOo_f, q_not, kNot_a, kNo_a, q_var, kVo_a, q_glob, kGo_a, q_int, q_bl, q_non, q_str, q_bin, kBin_a, kBin2_a, q_cmp, kCmp_a, kCmp2_a, q_ix, kIx_a, kIx2_a, q_neg, kNg_a, q_tup, kTup_b, q_lst, kLst_b, q_call, kCall_a, q_bi, kBi_a, q_isin, kIs_b, kIsO_a, q_consE, q_nilE, kEs_a, kEs2_a, q_chn, kC2_a, kC3_a, kC4_t, kC4_f, q_noC, q_yesC, kTr_a, kTb_a, kSome_a, kSt_t, kSt_f, q_comp, q_seq, kSeq_a, kSo2_a, q_for, kFor_a, q_rng1, kRng_a, q_enum, kEnum_a, q_fstr, kFs_a, q_consF, q_nilF, kF_a, q_fmt, kFm_a, kFmO_a, q_meth, kMe_a, kMe_b, kMe2_a, q_sl, kSl_a, kSl2_a, kSl3_a, q_rev, kRev_a, q_heard, kHd_ok, kHd_exc, q_par, kPa_a, kPa2_a, q_clr, q_noO, q_yesO, kOi_a, q_retN, q_pass, q_brk, q_cnt, R.bind_ok, R.out_ok, R.bind_exc, R.out_exc, sq_nx, sq_rt, sq_exc, sq_bk, sq_ct, t_bl, nam_d, nam_l, namAll_nil, namAll_cons, List.getElem?_cons_zero, List.getElem?_cons_succ, List.set_cons_zero, List.set_cons_succ, setTg_nm, List.length_cons, List.length_nil, Nat.reduceAdd, Nat.reduceLeDiff, Nat.zero_add, if_true, if_false, Bool.not_true, Bool.not_false, call_cfg, glob_cfg, isT_str hv.vd, hs, no hs]
  | true =>
    cases d with
    | str x =>
      have hp := hv.pl_of (by intro n z; cases z)
      obtain ⟨ok, hl⟩ := plD_str hp
      by_cases h1 : (x.length : Int) < 1
      · have e : nmB (.str x) = false := by
          unfold nmB nameB
          simp only
          rw [decide_eq_false (p := 1 ≤ x.length) (by omega)]; simp
        simp -implicitDefEqProofs only [b_law_is_one_name, q_cons, q_nil, q_ite, kIte_a, kTw_t, kTw_f, q_set, kSet_a, kSo_a, q_setIx, kX1_a, kX2_a, kX3_a, kXo_a, q_ret, kRet_a, q_ex, kEx_a, q_raise, kRaise_a, q_ife, kIfe_a, kTe_t, kTe_f, q_and, kAnd_a, kAo_t, kAo_f, q_or, kOr_a, kOo_t, kOo_f, q_not, kNot_a, kNo_a, q_var, kVo_a, q_glob, kGo_a, q_int, q_bl, q_non, q_str, q_bin, kBin_a, kBin2_a, q_cmp, kCmp_a, kCmp2_a, q_ix, kIx_a, kIx2_a, q_neg, kNg_a, q_tup, kTup_b, q_lst, kLst_b, q_call, kCall_a, q_bi, kBi_a, q_isin, kIs_b, kIsO_a, q_consE, q_nilE, kEs_a, kEs2_a, q_chn, kC2_a, kC3_a, kC4_t, kC4_f, q_noC, q_yesC, kTr_a, kTb_a, kSome_a, kSt_t, kSt_f, q_comp, q_seq, kSeq_a, kSo2_a, q_for, kFor_a, q_rng1, kRng_a, q_enum, kEnum_a, q_fstr, kFs_a, q_consF, q_nilF, kF_a, q_fmt, kFm_a, kFmO_a, q_meth, kMe_a, kMe_b, kMe2_a, q_sl, kSl_a, kSl2_a, kSl3_a, q_rev, kRev_a, q_heard, kHd_ok, kHd_exc, q_par, kPa_a, kPa2_a, q_clr, q_noO, q_yesO, kOi_a, q_retN, q_pass, q_brk, q_cnt, R.bind_ok, R.out_ok, R.bind_exc, R.out_exc, sq_nx, sq_rt, sq_exc, sq_bk, sq_ct, t_bl, nam_d, nam_l, namAll_nil, namAll_cons, List.getElem?_cons_zero, List.getElem?_cons_succ, List.set_cons_zero, List.set_cons_succ, setTg_nm, List.length_cons, List.length_nil, Nat.reduceAdd, Nat.reduceLeDiff, Nat.zero_add, if_true, if_false, Bool.not_true, Bool.not_false, call_cfg, glob_cfg, isT_str (Vd_pl hp), hs, b_lens hl, c_lt, c_gt, decide_eq_true h1, e]
      · by_cases h2 : (12 : Int) < x.length
        · have e : nmB (.str x) = false := by
            unfold nmB nameB
            simp only
            rw [decide_eq_false (p := x.length ≤ 12) (by omega)]; simp
          simp -implicitDefEqProofs only [b_law_is_one_name, q_cons, q_nil, q_ite, kIte_a, kTw_t, kTw_f, q_set, kSet_a, kSo_a, q_setIx, kX1_a, kX2_a, kX3_a, kXo_a, q_ret, kRet_a, q_ex, kEx_a, q_raise, kRaise_a, q_ife, kIfe_a, kTe_t, kTe_f, q_and, kAnd_a, kAo_t, kAo_f, q_or, kOr_a, kOo_t, kOo_f, q_not, kNot_a, kNo_a, q_var, kVo_a, q_glob, kGo_a, q_int, q_bl, q_non, q_str, q_bin, kBin_a, kBin2_a, q_cmp, kCmp_a, kCmp2_a, q_ix, kIx_a, kIx2_a, q_neg, kNg_a, q_tup, kTup_b, q_lst, kLst_b, q_call, kCall_a, q_bi, kBi_a, q_isin, kIs_b, kIsO_a, q_consE, q_nilE, kEs_a, kEs2_a, q_chn, kC2_a, kC3_a, kC4_t, kC4_f, q_noC, q_yesC, kTr_a, kTb_a, kSome_a, kSt_t, kSt_f, q_comp, q_seq, kSeq_a, kSo2_a, q_for, kFor_a, q_rng1, kRng_a, q_enum, kEnum_a, q_fstr, kFs_a, q_consF, q_nilF, kF_a, q_fmt, kFm_a, kFmO_a, q_meth, kMe_a, kMe_b, kMe2_a, q_sl, kSl_a, kSl2_a, kSl3_a, q_rev, kRev_a, q_heard, kHd_ok, kHd_exc, q_par, kPa_a, kPa2_a, q_clr, q_noO, q_yesO, kOi_a, q_retN, q_pass, q_brk, q_cnt, R.bind_ok, R.out_ok, R.bind_exc, R.out_exc, sq_nx, sq_rt, sq_exc, sq_bk, sq_ct, t_bl, nam_d, nam_l, namAll_nil, namAll_cons, List.getElem?_cons_zero, List.getElem?_cons_succ, List.set_cons_zero, List.set_cons_succ, setTg_nm, List.length_cons, List.length_nil, Nat.reduceAdd, Nat.reduceLeDiff, Nat.zero_add, if_true, if_false, Bool.not_true, Bool.not_false, call_cfg, glob_cfg, isT_str (Vd_pl hp), hs, b_lens hl, c_lt, c_gt, decide_eq_false h1, decide_eq_true h2, e]
        · cases h3 : (x == ("none" : Str)) with
          | true =>
            have e : nmB (.str x) = false := by unfold nmB nameB; simp [h3]
            simp -implicitDefEqProofs only [b_law_is_one_name, q_cons, q_nil, q_ite, kIte_a, kTw_t, kTw_f, q_set, kSet_a, kSo_a, q_setIx, kX1_a, kX2_a, kX3_a, kXo_a, q_ret, kRet_a, q_ex, kEx_a, q_raise, kRaise_a, q_ife, kIfe_a, kTe_t, kTe_f, q_and, kAnd_a, kAo_t, kAo_f, q_or, kOr_a, kOo_t, kOo_f, q_not, kNot_a, kNo_a, q_var, kVo_a, q_glob, kGo_a, q_int, q_bl, q_non, q_str, q_bin, kBin_a, kBin2_a, q_cmp, kCmp_a, kCmp2_a, q_ix, kIx_a, kIx2_a, q_neg, kNg_a, q_tup, kTup_b, q_lst, kLst_b, q_call, kCall_a, q_bi, kBi_a, q_isin, kIs_b, kIsO_a, q_consE, q_nilE, kEs_a, kEs2_a, q_chn, kC2_a, kC3_a, kC4_t, kC4_f, q_noC, q_yesC, kTr_a, kTb_a, kSome_a, kSt_t, kSt_f, q_comp, q_seq, kSeq_a, kSo2_a, q_for, kFor_a, q_rng1, kRng_a, q_enum, kEnum_a, q_fstr, kFs_a, q_consF, q_nilF, kF_a, q_fmt, kFm_a, kFmO_a, q_meth, kMe_a, kMe_b, kMe2_a, q_sl, kSl_a, kSl2_a, kSl3_a, q_rev, kRev_a, q_heard, kHd_ok, kHd_exc, q_par, kPa_a, kPa2_a, q_clr, q_noO, q_yesO, kOi_a, q_retN, q_pass, q_brk, q_cnt, R.bind_ok, R.out_ok, R.bind_exc, R.out_exc, sq_nx, sq_rt, sq_exc, sq_bk, sq_ct, t_bl, nam_d, nam_l, namAll_nil, namAll_cons, List.getElem?_cons_zero, List.getElem?_cons_succ, List.set_cons_zero, List.set_cons_succ, setTg_nm, List.length_cons, List.length_nil, Nat.reduceAdd, Nat.reduceLeDiff, Nat.zero_add, if_true, if_false, Bool.not_true, Bool.not_false, call_cfg, glob_cfg, isT_str (Vd_pl hp), hs, b_lens hl, c_lt, c_gt, decide_eq_false h1, decide_eq_false h2, c_eqs ok none_ok, h3, e]
          | false =>
            have e : nmB (.str x) = x.cps.toList.all okL := by
              unfold nmB nameB
              simp only [h3, Bool.not_false, Bool.true_and]
              rw [decide_eq_true (by omega), decide_eq_true (by omega)]; simp
            have st : ∀ d ∈ x.cps.toList.map sgn, kStep (cfg Pg wf (k + 1)) (.var 1) (.nm 1) (.yes (.cmp .NotIn (.var 1) (.call "_law_letters" .nil))) [some (.str x), none] d h = .ok (if okD d then none else some d) h := fun d hd => by
              obtain ⟨c, _, rfl⟩ := List.mem_map.mp hd
              rw [kStep_a setTg_nm]
              simp -implicitDefEqProofs only [q_cons, q_nil, q_ite, kIte_a, kTw_t, kTw_f, q_set, kSet_a, kSo_a, q_setIx, kX1_a, kX2_a, kX3_a, kXo_a, q_ret, kRet_a, q_ex, kEx_a, q_raise, kRaise_a, q_ife, kIfe_a, kTe_t, kTe_f, q_and, kAnd_a, kAo_t, kAo_f, q_or, kOr_a, kOo_t, kOo_f, q_not, kNot_a, kNo_a, q_var, kVo_a, q_glob, kGo_a, q_int, q_bl, q_non, q_str, q_bin, kBin_a, kBin2_a, q_cmp, kCmp_a, kCmp2_a, q_ix, kIx_a, kIx2_a, q_neg, kNg_a, q_tup, kTup_b, q_lst, kLst_b, q_call, kCall_a, q_bi, kBi_a, q_isin, kIs_b, kIsO_a, q_consE, q_nilE, kEs_a, kEs2_a, q_chn, kC2_a, kC3_a, kC4_t, kC4_f, q_noC, q_yesC, kTr_a, kTb_a, kSome_a, kSt_t, kSt_f, q_comp, q_seq, kSeq_a, kSo2_a, q_for, kFor_a, q_rng1, kRng_a, q_enum, kEnum_a, q_fstr, kFs_a, q_consF, q_nilF, kF_a, q_fmt, kFm_a, kFmO_a, q_meth, kMe_a, kMe_b, kMe2_a, q_sl, kSl_a, kSl2_a, kSl3_a, q_rev, kRev_a, q_heard, kHd_ok, kHd_exc, q_par, kPa_a, kPa2_a, q_clr, q_noO, q_yesO, kOi_a, q_retN, q_pass, q_brk, q_cnt, R.bind_ok, R.out_ok, R.bind_exc, R.out_exc, sq_nx, sq_rt, sq_exc, sq_bk, sq_ct, t_bl, nam_d, nam_l, namAll_nil, namAll_cons, List.getElem?_cons_zero, List.getElem?_cons_succ, List.set_cons_zero, List.set_cons_succ, setTg_nm, List.length_cons, List.length_nil, Nat.reduceAdd, Nat.reduceLeDiff, Nat.zero_add, if_true, if_false, Bool.not_true, Bool.not_false, call_cfg, glob_cfg, letters_ok, sgn]
              show (((cmpR .NotIn (.d (.str ⟨#[c]⟩)) (.d (.str LET)) h).bind kTr).bind _) = _
              cases q : okS ⟨#[c]⟩ <;> simp -implicitDefEqProofs only [q_cons, q_nil, q_ite, kIte_a, kTw_t, kTw_f, q_set, kSet_a, kSo_a, q_setIx, kX1_a, kX2_a, kX3_a, kXo_a, q_ret, kRet_a, q_ex, kEx_a, q_raise, kRaise_a, q_ife, kIfe_a, kTe_t, kTe_f, q_and, kAnd_a, kAo_t, kAo_f, q_or, kOr_a, kOo_t, kOo_f, q_not, kNot_a, kNo_a, q_var, kVo_a, q_glob, kGo_a, q_int, q_bl, q_non, q_str, q_bin, kBin_a, kBin2_a, q_cmp, kCmp_a, kCmp2_a, q_ix, kIx_a, kIx2_a, q_neg, kNg_a, q_tup, kTup_b, q_lst, kLst_b, q_call, kCall_a, q_bi, kBi_a, q_isin, kIs_b, kIsO_a, q_consE, q_nilE, kEs_a, kEs2_a, q_chn, kC2_a, kC3_a, kC4_t, kC4_f, q_noC, q_yesC, kTr_a, kTb_a, kSome_a, kSt_t, kSt_f, q_comp, q_seq, kSeq_a, kSo2_a, q_for, kFor_a, q_rng1, kRng_a, q_enum, kEnum_a, q_fstr, kFs_a, q_consF, q_nilF, kF_a, q_fmt, kFm_a, kFmO_a, q_meth, kMe_a, kMe_b, kMe2_a, q_sl, kSl_a, kSl2_a, kSl3_a, q_rev, kRev_a, q_heard, kHd_ok, kHd_exc, q_par, kPa_a, kPa2_a, q_clr, q_noO, q_yesO, kOi_a, q_retN, q_pass, q_brk, q_cnt, R.bind_ok, R.out_ok, R.bind_exc, R.out_exc, sq_nx, sq_rt, sq_exc, sq_bk, sq_ct, t_bl, nam_d, nam_l, namAll_nil, namAll_cons, List.getElem?_cons_zero, List.getElem?_cons_succ, List.set_cons_zero, List.set_cons_succ, setTg_nm, List.length_cons, List.length_nil, Nat.reduceAdd, Nat.reduceLeDiff, Nat.zero_add, if_true, if_false, Bool.not_true, Bool.not_false, call_cfg, glob_cfg, notin_let, okD, q] <;> rfl
            have cf := comp_fix (C := cfg Pg wf (k + 1)) (ρ := [some (.str x), none]) (h := h) (elt := .var 1) (tg := .nm 1) (c := .yes (.cmp .NotIn (.var 1) (.call "_law_letters" .nil))) (f := fun d => if okD d then none else some d) (s := strSrc x) (x.cps.toList.map sgn) (fun i _ => rfl) rfl rfl (by rw [List.length_map, cps_len]; omega) st
            have ok2 : ∀ c ∈ x.cps.toList, c < 1114112 := fun c hc => by
              have := Array.all_eq_true'.mp ok c (by simpa using hc)
              exact of_decide_eq_true this
            have fl : ∀ d ∈ (x.cps.toList.map sgn).filterMap (fun d => if okD d then none else some d), flB d = true := fun d hd => by
              obtain ⟨d2, h3, h4⟩ := List.mem_filterMap.mp hd
              obtain ⟨c, h5, rfl⟩ := List.mem_map.mp h3
              split at h4
              · cases h4
              · cases h4
                have := ok2 c h5
                simp [flB, sgn, PyData.strOk, this]
            have em := em_lem x.cps.toList
            simp -implicitDefEqProofs only [b_law_is_one_name, q_cons, q_nil, q_ite, kIte_a, kTw_t, kTw_f, q_set, kSet_a, kSo_a, q_setIx, kX1_a, kX2_a, kX3_a, kXo_a, q_ret, kRet_a, q_ex, kEx_a, q_raise, kRaise_a, q_ife, kIfe_a, kTe_t, kTe_f, q_and, kAnd_a, kAo_t, kAo_f, q_or, kOr_a, kOo_t, kOo_f, q_not, kNot_a, kNo_a, q_var, kVo_a, q_glob, kGo_a, q_int, q_bl, q_non, q_str, q_bin, kBin_a, kBin2_a, q_cmp, kCmp_a, kCmp2_a, q_ix, kIx_a, kIx2_a, q_neg, kNg_a, q_tup, kTup_b, q_lst, kLst_b, q_call, kCall_a, q_bi, kBi_a, q_isin, kIs_b, kIsO_a, q_consE, q_nilE, kEs_a, kEs2_a, q_chn, kC2_a, kC3_a, kC4_t, kC4_f, q_noC, q_yesC, kTr_a, kTb_a, kSome_a, kSt_t, kSt_f, q_comp, q_seq, kSeq_a, kSo2_a, q_for, kFor_a, q_rng1, kRng_a, q_enum, kEnum_a, q_fstr, kFs_a, q_consF, q_nilF, kF_a, q_fmt, kFm_a, kFmO_a, q_meth, kMe_a, kMe_b, kMe2_a, q_sl, kSl_a, kSl2_a, kSl3_a, q_rev, kRev_a, q_heard, kHd_ok, kHd_exc, q_par, kPa_a, kPa2_a, q_clr, q_noO, q_yesO, kOi_a, q_retN, q_pass, q_brk, q_cnt, R.bind_ok, R.out_ok, R.bind_exc, R.out_exc, sq_nx, sq_rt, sq_exc, sq_bk, sq_ct, t_bl, nam_d, nam_l, namAll_nil, namAll_cons, List.getElem?_cons_zero, List.getElem?_cons_succ, List.set_cons_zero, List.set_cons_succ, setTg_nm, List.length_cons, List.length_nil, Nat.reduceAdd, Nat.reduceLeDiff, Nat.zero_add, if_true, if_false, Bool.not_true, Bool.not_false, call_cfg, glob_cfg, isT_str (Vd_pl hp), hs, b_lens hl, c_lt, c_gt, decide_eq_false h1, decide_eq_false h2, c_eqs ok none_ok, h3, e, src_str, cf, c_nil fl, em]
    | _ => cases hs
end K33

set_option Elab.async false
set_option linter.all false
set_option maxRecDepth 100000
set_option maxHeartbeats 4000000
/-! Pure7: made_names and what is owed. -/
namespace K33
open PySem Mill HeadK
def badN (ds : List D) (i : Nat) : Bool := match ds[i]? with
  | some x => !nmB x || (ds.take i).any fun y => eqF y x
  | none => false
/-- the first index at which names are wrong -/
def badNm (ds : List D) : Option Nat := (List.range' 0 ds.length).find? (badN ds)
theorem find_some {α β : Type} (p : α → Bool) (g : α → β) (l : List α) : l.findSome? (fun i => if p i then some (g i) else none) = (l.find? p).map g := by
  induction l with
  | nil => rfl
  | cons a l ih =>
    simp only [List.findSome?_cons, List.find?_cons]
    cases p a
    · simpa using ih
    · rfl
theorem flat_str {x : D} (h : nmB x = true) : ∃ s, x = .str s := by
  cases x <;> first | exact ⟨_, rfl⟩ | cases h
theorem inD_names {ds : List D} {x : D} (hx : nmB x = true) (hd : ∀ y ∈ ds, nmB y = true) : inD x ds = some (ds.any fun y => eqF y x) := by
  unfold inD
  obtain ⟨s, rfl⟩ := flat_str hx
  have : (ds.all flatD) = true := List.all_eq_true.mpr fun y hy => by
    obtain ⟨s, rfl⟩ := flat_str (hd y hy); rfl
  rw [this]; rfl
theorem viewS_ref {n : Nat} {ds : List D} {h : AH} (e : h[n]? = some (.lst ds)) : viewS (.d (.ref n)) h = some ds := by
  simp only [viewS, viewL, viewM, e]
theorem inT_d {b : Tm} {x : D} {h : AH} (hb : ∀ s, b ≠ .d (.str s)) : inT (.d x) b h = match viewS b h with | some ds => inD x ds | none => none := by
  cases b with
  | l ds => cases x <;> rfl
  | d y =>
    cases y with
    | str s => exact absurd rfl (hb s)
    | _ => cases x <;> rfl
theorem ite_none {α : Type} {p : Bool} {o : α} (e : (if p then some o else none) = none) : p = false := by
  cases p
  · rfl
  · cases e
theorem c_in {b : Tm} {ds : List D} {x : D} {h : AH} (e : viewS b h = some ds) (hb : ∀ s, b ≠ .d (.str s)) (hx : nmB x = true) (hd : ∀ y ∈ ds, nmB y = true) : cmpR .In (.d x) b h = .ok (.d (.bl (ds.any fun y => eqF y x))) h := by
  obtain ⟨s, rfl⟩ := flat_str hx
  have : inT (.d (.str s)) b h = some (ds.any fun y => eqF y (.str s)) := by
    rw [inT_d hb, e]; exact inD_names hx hd
  unfold cmpR cmpT; simp only [this]
theorem c_nin {b : Tm} {ds : List D} {x : D} {h : AH} (e : viewS b h = some ds) (hb : ∀ s, b ≠ .d (.str s)) (hx : nmB x = true) (hd : ∀ y ∈ ds, nmB y = true) : cmpR .NotIn (.d x) b h = .ok (.d (.bl (!ds.any fun y => eqF y x))) h := by
  obtain ⟨s, rfl⟩ := flat_str hx
  have : inT (.d (.str s)) b h = some (ds.any fun y => eqF y (.str s)) := by
    rw [inT_d hb, e]; exact inD_names hx hd
  unfold cmpR cmpT; simp only [this]; rfl
theorem m_append {n : Nat} {ds : List D} {x : D} {h : AH} (e : h[n]? = some (.lst ds)) (hl : ds.length ≤ 1000000) : methT "append" (.d (.ref n)) [.d x] h = .ok (.d .non) (h.set n (.lst (ds ++ [x]))) := by
  have : methT "append" (.d (.ref n)) [.d x] h = mAppend (.d (.ref n)) (.d x) h := by kernel_rfl
  rw [this]; unfold mAppend
  simp only [e, nam_d]
  rw [if_pos (by rw [sizeLine_eq]; omega)]
theorem recv_app {n : Nat} {ds : List D} {h : AH} (e : h[n]? = some (.lst ds)) : recvOk "append" (.d (.ref n)) h = true := by
  unfold recvOk
  simp only [e]; decide +kernel
theorem b_tuple {n : Nat} {ds : List D} {h : AH} (e : h[n]? = some (.lst ds)) : biT "tuple" [.d (.ref n)] h = .ok (.d (.tup ds)) h := by
  have : biT "tuple" [.d (.ref n)] h = biTuple [.d (.ref n)] h := by kernel_rfl
  rw [this]; unfold biTuple
  simp only [viewL, viewM, e]
theorem b_tuplel {ds : List D} {h : AH} : biT "tuple" [.l ds] h = .ok (.d (.tup ds)) h := by
  have : biT "tuple" [.l ds] h = biTuple [.l ds] h := by kernel_rfl
  rw [this]; rfl
theorem b_lent {ds : List D} {h : AH} : biT "len" [.d (.tup ds)] h = .ok (.d (.int ds.length)) h := b_len rfl fun _ z => by cases z
theorem setTg_tp2 {a b : Nat} {x y : D} {ρ : Sl} : setTg (.tp [a, b]) (.tup [x, y]) ρ = some ((ρ.set a (some x)).set b (some y)) := rfl
theorem setTg_tp3 {a b c : Nat} {x y z : D} {ρ : Sl} : setTg (.tp [a, b, c]) (.tup [x, y, z]) ρ = some (((ρ.set a (some x)).set b (some y)).set c (some z)) := rfl
theorem good_before {ds : List D} {i : Nat} (hi : i ≤ ds.length) (hp : ∀ j, j < i → badN ds j = false) : ∀ y ∈ ds.take i, nmB y = true := fun y hy => by
  obtain ⟨j, hj, e⟩ := List.mem_iff_getElem.mp hy
  have hj2 : j < i := by rw [List.length_take] at hj; omega
  have := hp j hj2
  unfold badN at this
  rw [List.getElem?_eq_getElem (by omega)] at this
  rw [List.getElem_take] at e
  simp only [e, Bool.or_eq_false_iff, Bool.not_eq_false'] at this
  exact this.1
theorem call_exc {wf k : Nat} {f : Str} {fn : Fn} {ds : List D} {c : Str} {w : D} {h e : AH} (hf : Pg.fn f = some fn) (hl : ds.length = fn.ps) (ev : evSs (cfg Pg wf k) wf fn.body (ds.map some ++ List.replicate (fn.n - fn.ps) none) h = .exc c w (h ++ e)) (hc : Cl h) (hw : below h.length w = true) :
    callF Pg wf (k + 1) f (ds.map Tm.d) h = .exc c w h := by
  rw [call_at hf (by rw [List.length_map]; exact hl), namAll_d, ev]
  exact leaveX_cut rfl hc hw
theorem call_cut {wf k : Nat} {f : Str} {fn : Fn} {ds : List D} {x : D} {h h1 e : AH} (hf : Pg.fn f = some fn) (hl : ds.length = fn.ps) (ev : evSs (cfg Pg wf k) wf fn.body (ds.map some ++ List.replicate (fn.n - fn.ps) none) h = .rt (.d x) (h1 ++ e)) (hl1 : h1.length = h.length) (hc : Cl h1) (hw : below h.length x = true) :
    callF Pg wf (k + 1) f (ds.map Tm.d) h = .ok (.d x) h1 := by
  rw [call_at hf (by rw [List.length_map]; exact hl), namAll_d, ev]
  exact leave_cut hl1 hc hw
theorem call_cutl {wf k : Nat} {f : Str} {fn : Fn} {ds : List D} {x : List D} {h h1 e : AH} (hf : Pg.fn f = some fn) (hl : ds.length = fn.ps) (ev : evSs (cfg Pg wf k) wf fn.body (ds.map some ++ List.replicate (fn.n - fn.ps) none) h = .rt (.l x) (h1 ++ e)) (hl1 : h1.length = h.length) (hc : Cl h1) (hw : belows h.length x = true) :
    callF Pg wf (k + 1) f (ds.map Tm.d) h = .ok (.l x) h1 := by
  rw [call_at hf (by rw [List.length_map]; exact hl), namAll_d, ev]
  exact leave_cutl hl1 hc hw
/-- what made_names answers -/
def namesR (d : D) (h : AH) : R Tm := match d with
  | .tup ds => if 60 < ds.length then .exc "TooMany" (.int ds.length) h else (match badNm ds with
    | some i => .exc "BadNames" (.int i) h
    | none => .ok (.d (.tup ds)) h)
  | _ => .exc "BadNames" (.int (-1)) h
def namesO (d : D) : D := match d with
  | .tup ds => if 60 < ds.length then .tup [.str "TooMany", .int ds.length] else (match badNm ds with
    | some i => .tup [.str "BadNames", .int i]
    | none => .tup [.str "told", .tup ds])
  | _ => .tup [.str "BadNames", .int (-1)]
def b_mn : Ss := (.cons (.ite (.or (.not (.call "is_name" (.cons (.var 3) .nil))) (.cmp .In (.var 3) (.var 1))) (.cons (.raise "BadNames" (.var 2)) .nil) .nil) (.cons (.ex (.meth "append" (.var 1) (.cons (.var 3) .nil))) .nil))
theorem mn_body {wf k i : Nat} {ds : List D} {x : D} {h : AH} (hl : ds.length ≤ 1000) (e : ds[i]? = some x) (hx : plD x = true) (hg : ∀ y ∈ ds.take i, nmB y = true) :
    evSs (cfg Pg wf (k + 1)) wf b_mn [some (.tup ds), some (.ref h.length), some (.int i), some x] (h ++ [.lst (ds.take i)]) = if badN ds i then .exc "BadNames" (.int i) (h ++ [.lst (ds.take i)]) else .nx [some (.tup ds), some (.ref h.length), some (.int i), ds[i]?] (h ++ [.lst (ds.take (i + 1))]) := by
  have nm : ∀ h, callF Pg wf (k + 1) "is_name" [.d x] h = .ok (.d (.bl (nmB x))) h := fun h => is_name_ok (.inl hx)
  have b0 : badN ds i = (!nmB x || (ds.take i).any fun y => eqF y x) := by unfold badN; simp only [e]
  cases q : nmB x with
  | false => simp -implicitDefEqProofs only [b_mn, q_cons, q_nil, q_ite, kIte_a, kTw_t, kTw_f, q_set, kSet_a, kSo_a, q_setIx, kX1_a, kX2_a, kX3_a, kXo_a, q_ret, kRet_a, q_ex, kEx_a, q_raise, kRaise_a, q_ife, kIfe_a, kTe_t, kTe_f, q_and, kAnd_a, kAo_t, kAo_f, q_or, kOr_a, kOo_t, kOo_f, q_not, kNot_a, kNo_a, q_var, kVo_a, q_glob, kGo_a, q_int, q_bl, q_non, q_str, q_bin, kBin_a, kBin2_a, q_cmp, kCmp_a, kCmp2_a, q_ix, kIx_a, kIx2_a, q_neg, kNg_a, q_tup, kTup_b, q_lst, kLst_b, q_call, kCall_a, q_bi, kBi_a, q_isin, kIs_b, kIsO_a, q_consE, q_nilE, kEs_a, kEs2_a, q_chn, kC2_a, kC3_a, kC4_t, kC4_f, q_noC, q_yesC, kTr_a, kTb_a, kSome_a, kSt_t, kSt_f, q_comp, q_seq, kSeq_a, kSo2_a, q_for, kFor_a, q_rng1, kRng_a, q_enum, kEnum_a, q_fstr, kFs_a, q_consF, q_nilF, kF_a, q_fmt, kFm_a, kFmO_a, q_meth, kMe_a, kMe_b, kMe2_a, q_sl, kSl_a, kSl2_a, kSl3_a, q_rev, kRev_a, q_heard, kHd_ok, kHd_exc, q_par, kPa_a, kPa2_a, q_clr, q_noO, q_yesO, kOi_a, q_retN, q_pass, q_brk, q_cnt, R.bind_ok, R.out_ok, R.bind_exc, R.out_exc, sq_nx, sq_rt, sq_exc, sq_bk, sq_ct, t_bl, nam_d, nam_l, namAll_nil, namAll_cons, List.getElem?_cons_zero, List.getElem?_cons_succ, List.set_cons_zero, List.set_cons_succ, setTg_nm, List.length_cons, List.length_nil, Nat.reduceAdd, Nat.reduceLeDiff, Nat.zero_add, if_true, if_false, Bool.not_true, Bool.not_false, call_cfg, glob_cfg, nm, b0, q, Bool.true_or]
  | true =>
    have ci := c_in (b := .d (.ref h.length)) (h := h ++ [.lst (ds.take i)]) (viewS_ref hat0) (fun s z => by cases z) q hg
    cases q2 : (ds.take i).any fun y => eqF y x with
    | true => simp -implicitDefEqProofs only [b_mn, q_cons, q_nil, q_ite, kIte_a, kTw_t, kTw_f, q_set, kSet_a, kSo_a, q_setIx, kX1_a, kX2_a, kX3_a, kXo_a, q_ret, kRet_a, q_ex, kEx_a, q_raise, kRaise_a, q_ife, kIfe_a, kTe_t, kTe_f, q_and, kAnd_a, kAo_t, kAo_f, q_or, kOr_a, kOo_t, kOo_f, q_not, kNot_a, kNo_a, q_var, kVo_a, q_glob, kGo_a, q_int, q_bl, q_non, q_str, q_bin, kBin_a, kBin2_a, q_cmp, kCmp_a, kCmp2_a, q_ix, kIx_a, kIx2_a, q_neg, kNg_a, q_tup, kTup_b, q_lst, kLst_b, q_call, kCall_a, q_bi, kBi_a, q_isin, kIs_b, kIsO_a, q_consE, q_nilE, kEs_a, kEs2_a, q_chn, kC2_a, kC3_a, kC4_t, kC4_f, q_noC, q_yesC, kTr_a, kTb_a, kSome_a, kSt_t, kSt_f, q_comp, q_seq, kSeq_a, kSo2_a, q_for, kFor_a, q_rng1, kRng_a, q_enum, kEnum_a, q_fstr, kFs_a, q_consF, q_nilF, kF_a, q_fmt, kFm_a, kFmO_a, q_meth, kMe_a, kMe_b, kMe2_a, q_sl, kSl_a, kSl2_a, kSl3_a, q_rev, kRev_a, q_heard, kHd_ok, kHd_exc, q_par, kPa_a, kPa2_a, q_clr, q_noO, q_yesO, kOi_a, q_retN, q_pass, q_brk, q_cnt, R.bind_ok, R.out_ok, R.bind_exc, R.out_exc, sq_nx, sq_rt, sq_exc, sq_bk, sq_ct, t_bl, nam_d, nam_l, namAll_nil, namAll_cons, List.getElem?_cons_zero, List.getElem?_cons_succ, List.set_cons_zero, List.set_cons_succ, setTg_nm, List.length_cons, List.length_nil, Nat.reduceAdd, Nat.reduceLeDiff, Nat.zero_add, if_true, if_false, Bool.not_true, Bool.not_false, call_cfg, glob_cfg, nm, b0, q, q2, ci, Bool.or_true]
    | false =>
      have tk : ds.take (i + 1) = ds.take i ++ [x] := by rw [List.take_add_one, e]; rfl
      simp -implicitDefEqProofs only [b_mn, q_cons, q_nil, q_ite, kIte_a, kTw_t, kTw_f, q_set, kSet_a, kSo_a, q_setIx, kX1_a, kX2_a, kX3_a, kXo_a, q_ret, kRet_a, q_ex, kEx_a, q_raise, kRaise_a, q_ife, kIfe_a, kTe_t, kTe_f, q_and, kAnd_a, kAo_t, kAo_f, q_or, kOr_a, kOo_t, kOo_f, q_not, kNot_a, kNo_a, q_var, kVo_a, q_glob, kGo_a, q_int, q_bl, q_non, q_str, q_bin, kBin_a, kBin2_a, q_cmp, kCmp_a, kCmp2_a, q_ix, kIx_a, kIx2_a, q_neg, kNg_a, q_tup, kTup_b, q_lst, kLst_b, q_call, kCall_a, q_bi, kBi_a, q_isin, kIs_b, kIsO_a, q_consE, q_nilE, kEs_a, kEs2_a, q_chn, kC2_a, kC3_a, kC4_t, kC4_f, q_noC, q_yesC, kTr_a, kTb_a, kSome_a, kSt_t, kSt_f, q_comp, q_seq, kSeq_a, kSo2_a, q_for, kFor_a, q_rng1, kRng_a, q_enum, kEnum_a, q_fstr, kFs_a, q_consF, q_nilF, kF_a, q_fmt, kFm_a, kFmO_a, q_meth, kMe_a, kMe_b, kMe2_a, q_sl, kSl_a, kSl2_a, kSl3_a, q_rev, kRev_a, q_heard, kHd_ok, kHd_exc, q_par, kPa_a, kPa2_a, q_clr, q_noO, q_yesO, kOi_a, q_retN, q_pass, q_brk, q_cnt, R.bind_ok, R.out_ok, R.bind_exc, R.out_exc, sq_nx, sq_rt, sq_exc, sq_bk, sq_ct, t_bl, nam_d, nam_l, namAll_nil, namAll_cons, List.getElem?_cons_zero, List.getElem?_cons_succ, List.set_cons_zero, List.set_cons_succ, setTg_nm, List.length_cons, List.length_nil, Nat.reduceAdd, Nat.reduceLeDiff, Nat.zero_add, if_true, if_false, Bool.not_true, Bool.not_false, call_cfg, glob_cfg, nm, b0, q, q2, ci, Bool.or_false, recv_app hat0, m_append hat0 (show (ds.take i).length ≤ 1000000 by rw [List.length_take]; omega), hset0, tk, e, Bool.false_eq_true]
theorem made_names_ok {wf k : Nat} {d : D} {h : AH} (hv : Va d h) (hc : Cl h) : callF Pg wf (k + 2) "made_names" [.d d] h = namesR d h := by
  have no : isTu d = false → namesR d h = .exc "BadNames" (.int (-1)) h := by intro e; cases d <;> first | rfl | cases e
  cases hs : isTu d with
  | false =>
    rw [no hs]
    refine call_exc (ds := [d]) (e := []) fn_made_names rfl ?_ hc (by simp [below])
    show evSs (cfg Pg wf (k + 1)) wf b_made_names [some d, none, none, none] h = _
    simp -implicitDefEqProofs only [b_made_names, q_cons, q_nil, q_ite, kIte_a, kTw_t, kTw_f, q_set, kSet_a, kSo_a, q_setIx, kX1_a, kX2_a, kX3_a, kXo_a, q_ret, kRet_a, q_ex, kEx_a, q_raise, kRaise_a, q_ife, kIfe_a, kTe_t, kTe_f, q_and, kAnd_a, kAo_t, kAo_f, q_or, kOr_a, kOo_t, kOo_f, q_not, kNot_a, kNo_a, q_var, kVo_a, q_glob, kGo_a, q_int, q_bl, q_non, q_str, q_bin, kBin_a, kBin2_a, q_cmp, kCmp_a, kCmp2_a, q_ix, kIx_a, kIx2_a, q_neg, kNg_a, q_tup, kTup_b, q_lst, kLst_b, q_call, kCall_a, q_bi, kBi_a, q_isin, kIs_b, kIsO_a, q_consE, q_nilE, kEs_a, kEs2_a, q_chn, kC2_a, kC3_a, kC4_t, kC4_f, q_noC, q_yesC, kTr_a, kTb_a, kSome_a, kSt_t, kSt_f, q_comp, q_seq, kSeq_a, kSo2_a, q_for, kFor_a, q_rng1, kRng_a, q_enum, kEnum_a, q_fstr, kFs_a, q_consF, q_nilF, kF_a, q_fmt, kFm_a, kFmO_a, q_meth, kMe_a, kMe_b, kMe2_a, q_sl, kSl_a, kSl2_a, kSl3_a, q_rev, kRev_a, q_heard, kHd_ok, kHd_exc, q_par, kPa_a, kPa2_a, q_clr, q_noO, q_yesO, kOi_a, q_retN, q_pass, q_brk, q_cnt, R.bind_ok, R.out_ok, R.bind_exc, R.out_exc, sq_nx, sq_rt, sq_exc, sq_bk, sq_ct, t_bl, nam_d, nam_l, namAll_nil, namAll_cons, List.getElem?_cons_zero, List.getElem?_cons_succ, List.set_cons_zero, List.set_cons_succ, setTg_nm, List.length_cons, List.length_nil, Nat.reduceAdd, Nat.reduceLeDiff, Nat.zero_add, if_true, if_false, Bool.not_true, Bool.not_false, call_cfg, glob_cfg, isT_tuple hv.vd, hs, List.append_nil]
  | true =>
    cases d with
    | tup ds =>
      have hp := hv.pl_of (by intro n z; cases z)
      have hpd : plDs ds = true := by unfold plD at hp; exact hp
      unfold namesR
      by_cases hn : 60 < ds.length
      · simp only [hn, if_true]
        refine call_exc (ds := [.tup ds]) (e := []) fn_made_names rfl ?_ hc (by simp [below])
        show evSs (cfg Pg wf (k + 1)) wf b_made_names [some (.tup ds), none, none, none] h = _
        have hn2 : (60 : Int) < ds.length := by omega
        simp -implicitDefEqProofs only [b_made_names, q_cons, q_nil, q_ite, kIte_a, kTw_t, kTw_f, q_set, kSet_a, kSo_a, q_setIx, kX1_a, kX2_a, kX3_a, kXo_a, q_ret, kRet_a, q_ex, kEx_a, q_raise, kRaise_a, q_ife, kIfe_a, kTe_t, kTe_f, q_and, kAnd_a, kAo_t, kAo_f, q_or, kOr_a, kOo_t, kOo_f, q_not, kNot_a, kNo_a, q_var, kVo_a, q_glob, kGo_a, q_int, q_bl, q_non, q_str, q_bin, kBin_a, kBin2_a, q_cmp, kCmp_a, kCmp2_a, q_ix, kIx_a, kIx2_a, q_neg, kNg_a, q_tup, kTup_b, q_lst, kLst_b, q_call, kCall_a, q_bi, kBi_a, q_isin, kIs_b, kIsO_a, q_consE, q_nilE, kEs_a, kEs2_a, q_chn, kC2_a, kC3_a, kC4_t, kC4_f, q_noC, q_yesC, kTr_a, kTb_a, kSome_a, kSt_t, kSt_f, q_comp, q_seq, kSeq_a, kSo2_a, q_for, kFor_a, q_rng1, kRng_a, q_enum, kEnum_a, q_fstr, kFs_a, q_consF, q_nilF, kF_a, q_fmt, kFm_a, kFmO_a, q_meth, kMe_a, kMe_b, kMe2_a, q_sl, kSl_a, kSl2_a, kSl3_a, q_rev, kRev_a, q_heard, kHd_ok, kHd_exc, q_par, kPa_a, kPa2_a, q_clr, q_noO, q_yesO, kOi_a, q_retN, q_pass, q_brk, q_cnt, R.bind_ok, R.out_ok, R.bind_exc, R.out_exc, sq_nx, sq_rt, sq_exc, sq_bk, sq_ct, t_bl, nam_d, nam_l, namAll_nil, namAll_cons, List.getElem?_cons_zero, List.getElem?_cons_succ, List.set_cons_zero, List.set_cons_succ, setTg_nm, List.length_cons, List.length_nil, Nat.reduceAdd, Nat.reduceLeDiff, Nat.zero_add, if_true, if_false, Bool.not_true, Bool.not_false, call_cfg, glob_cfg, isT_tuple (Vd_pl hp), hs, b_lent, g_names, c_gt, decide_eq_true hn2, List.append_nil]
      · have hn2 : ¬ (60 : Int) < ds.length := by omega
        simp only [hn, if_false]
        let st : Nat → Sl := fun i => [some (.tup ds), some (.ref h.length)] ++ (match i with | 0 => [none, none] | i + 1 => [some (.int i), ds[i]?])
        let hh : Nat → AH := fun i => h ++ [.lst (ds.take i)]
        have sc := forL_scan (s := (Src.fix ds).enum) (step := kBody (cfg Pg wf (k + 1)) wf (.tp [2, 3]) b_mn) (n := ds.length) st hh (fun i => .tup [.int i, (ds[i]?).getD .non]) (fun i => if badN ds i then some (.exc "BadNames" (.int i) (hh i)) else none)
          (fun i hi => by
            show (ds[i]?).map _ = _
            rw [List.getElem?_eq_getElem hi]; rfl) rfl
          (fun i hi hp2 hb => by
            have q : badN ds i = false := by cases z : badN ds i <;> simp [z] at hb ⊢
            have e : ds[i]? = some ds[i] := List.getElem?_eq_getElem hi
            have B := mn_body (wf := wf) (k := k) (h := h) (by omega) e (plDs_mem hpd (List.getElem_mem hi)) (good_before (by omega) fun j hj => ite_none (hp2 j hj))
            rw [q] at B
            simp only [e, Option.getD_some]
            rw [kBody_a setTg_tp2]
            cases i <;> exact B)
          (fun i o hi hp2 hb => by
            have q : badN ds i = true := by cases z : badN ds i <;> simp [z] at hb ⊢
            have e : ds[i]? = some ds[i] := List.getElem?_eq_getElem hi
            have B := mn_body (wf := wf) (k := k) (h := h) (by omega) e (plDs_mem hpd (List.getElem_mem hi)) (good_before (by omega) fun j hj => ite_none (hp2 j hj))
            rw [q] at B hb
            simp only [if_true, Option.some.injEq] at hb
            subst hb
            simp only [e, Option.getD_some]
            rw [kBody_a setTg_tp2]
            exact ⟨by cases i <;> exact B, .inr ⟨_, _, _, rfl⟩⟩) ds.length 0 (by omega) (fun j hj => by omega)
        rw [find_some] at sc
        have sc0 : forL (Src.fix ds).enum (kBody (cfg Pg wf (k + 1)) wf (.tp [2, 3]) b_mn) (Src.fix ds).enum.len 0 [some (.tup ds), some (.ref h.length), none, none] (h ++ [.lst []]) = _ := sc
        cases q : badNm ds with
        | some i =>
          have q2 : (List.range' 0 ds.length).find? (badN ds) = some i := q
          rw [q2] at sc0
          refine call_exc (ds := [.tup ds]) (e := [.lst (ds.take i)]) fn_made_names rfl ?_ hc (by simp [below])
          show evSs (cfg Pg wf (k + 1)) wf b_made_names [some (.tup ds), none, none, none] h = _
          have sc1 : forL (Src.fix ds).enum (kBody (cfg Pg wf (k + 1)) wf (.tp [2, 3]) b_mn) (Src.fix ds).enum.len 0 [some (.tup ds), some (.ref h.length), none, none] (h ++ [.lst []]) = .exc "BadNames" (.int i) (h ++ [.lst (ds.take i)]) := sc0
          simp only [b_mn] at sc1
          simp -implicitDefEqProofs only [b_made_names, q_cons, q_nil, q_ite, kIte_a, kTw_t, kTw_f, q_set, kSet_a, kSo_a, q_setIx, kX1_a, kX2_a, kX3_a, kXo_a, q_ret, kRet_a, q_ex, kEx_a, q_raise, kRaise_a, q_ife, kIfe_a, kTe_t, kTe_f, q_and, kAnd_a, kAo_t, kAo_f, q_or, kOr_a, kOo_t, kOo_f, q_not, kNot_a, kNo_a, q_var, kVo_a, q_glob, kGo_a, q_int, q_bl, q_non, q_str, q_bin, kBin_a, kBin2_a, q_cmp, kCmp_a, kCmp2_a, q_ix, kIx_a, kIx2_a, q_neg, kNg_a, q_tup, kTup_b, q_lst, kLst_b, q_call, kCall_a, q_bi, kBi_a, q_isin, kIs_b, kIsO_a, q_consE, q_nilE, kEs_a, kEs2_a, q_chn, kC2_a, kC3_a, kC4_t, kC4_f, q_noC, q_yesC, kTr_a, kTb_a, kSome_a, kSt_t, kSt_f, q_comp, q_seq, kSeq_a, kSo2_a, q_for, kFor_a, q_rng1, kRng_a, q_enum, kEnum_a, q_fstr, kFs_a, q_consF, q_nilF, kF_a, q_fmt, kFm_a, kFmO_a, q_meth, kMe_a, kMe_b, kMe2_a, q_sl, kSl_a, kSl2_a, kSl3_a, q_rev, kRev_a, q_heard, kHd_ok, kHd_exc, q_par, kPa_a, kPa2_a, q_clr, q_noO, q_yesO, kOi_a, q_retN, q_pass, q_brk, q_cnt, R.bind_ok, R.out_ok, R.bind_exc, R.out_exc, sq_nx, sq_rt, sq_exc, sq_bk, sq_ct, t_bl, nam_d, nam_l, namAll_nil, namAll_cons, List.getElem?_cons_zero, List.getElem?_cons_succ, List.set_cons_zero, List.set_cons_succ, setTg_nm, List.length_cons, List.length_nil, Nat.reduceAdd, Nat.reduceLeDiff, Nat.zero_add, if_true, if_false, Bool.not_true, Bool.not_false, call_cfg, glob_cfg, isT_tuple (Vd_pl hp), hs, b_lent, g_names, c_gt, decide_eq_false hn2, sc1]
        | none =>
          have q2 : (List.range' 0 ds.length).find? (badN ds) = none := q
          rw [q2] at sc0
          have sc1 : forL (Src.fix ds).enum (kBody (cfg Pg wf (k + 1)) wf (.tp [2, 3]) b_mn) (Src.fix ds).enum.len 0 [some (.tup ds), some (.ref h.length), none, none] (h ++ [.lst []]) = .nx (st ds.length) (h ++ [.lst (ds.take ds.length)]) := sc0
          rw [List.take_length] at sc1
          refine call_cut (ds := [.tup ds]) (h1 := h) (e := [.lst ds]) fn_made_names rfl ?_ rfl hc (below_pl hp)
          show evSs (cfg Pg wf (k + 1)) wf b_made_names [some (.tup ds), none, none, none] h = _
          simp only [b_mn] at sc1
          simp -implicitDefEqProofs only [b_made_names, q_cons, q_nil, q_ite, kIte_a, kTw_t, kTw_f, q_set, kSet_a, kSo_a, q_setIx, kX1_a, kX2_a, kX3_a, kXo_a, q_ret, kRet_a, q_ex, kEx_a, q_raise, kRaise_a, q_ife, kIfe_a, kTe_t, kTe_f, q_and, kAnd_a, kAo_t, kAo_f, q_or, kOr_a, kOo_t, kOo_f, q_not, kNot_a, kNo_a, q_var, kVo_a, q_glob, kGo_a, q_int, q_bl, q_non, q_str, q_bin, kBin_a, kBin2_a, q_cmp, kCmp_a, kCmp2_a, q_ix, kIx_a, kIx2_a, q_neg, kNg_a, q_tup, kTup_b, q_lst, kLst_b, q_call, kCall_a, q_bi, kBi_a, q_isin, kIs_b, kIsO_a, q_consE, q_nilE, kEs_a, kEs2_a, q_chn, kC2_a, kC3_a, kC4_t, kC4_f, q_noC, q_yesC, kTr_a, kTb_a, kSome_a, kSt_t, kSt_f, q_comp, q_seq, kSeq_a, kSo2_a, q_for, kFor_a, q_rng1, kRng_a, q_enum, kEnum_a, q_fstr, kFs_a, q_consF, q_nilF, kF_a, q_fmt, kFm_a, kFmO_a, q_meth, kMe_a, kMe_b, kMe2_a, q_sl, kSl_a, kSl2_a, kSl3_a, q_rev, kRev_a, q_heard, kHd_ok, kHd_exc, q_par, kPa_a, kPa2_a, q_clr, q_noO, q_yesO, kOi_a, q_retN, q_pass, q_brk, q_cnt, R.bind_ok, R.out_ok, R.bind_exc, R.out_exc, sq_nx, sq_rt, sq_exc, sq_bk, sq_ct, t_bl, nam_d, nam_l, namAll_nil, namAll_cons, List.getElem?_cons_zero, List.getElem?_cons_succ, List.set_cons_zero, List.set_cons_succ, setTg_nm, List.length_cons, List.length_nil, Nat.reduceAdd, Nat.reduceLeDiff, Nat.zero_add, if_true, if_false, Bool.not_true, Bool.not_false, call_cfg, glob_cfg, isT_tuple (Vd_pl hp), hs, b_lent, g_names, c_gt, decide_eq_false hn2, sc1, st, List.cons_append, List.nil_append, b_tuple hat0]
    | _ => cases hs
end K33

set_option Elab.async false
set_option linter.all false
set_option maxRecDepth 100000
set_option maxHeartbeats 4000000
/-! Pure8: names as owed. -/
namespace K33
open PySem Mill HeadK
theorem cut_to {α : Type} {xs : List α} {i : Nat} (hi : i ≤ xs.length) : cutL xs none (some (i : Int)) = xs.take i := by
  have : HT.sIx xs.length xs.length (some (i : Int)) = i := by
    rw [HT.sIx_nat]; omega
  unfold cutL
  rw [this]
  simp [HT.sIx]
theorem cut_from {α : Type} {xs : List α} {i : Nat} (hi : i ≤ xs.length) : cutL xs (some (i : Int)) none = xs.drop i := by
  have : HT.sIx xs.length 0 (some (i : Int)) = i := by
    rw [HT.sIx_nat]; omega
  unfold cutL
  rw [this]
  simp [HT.sIx]
  rw [← List.length_drop, List.take_length]
theorem sl_to {xs : List D} {i : Nat} {h : AH} (hi : i ≤ xs.length) : slT (.d (.tup xs)) none (some (i : Int)) h = .ok (.d (.tup (xs.take i))) h := by
  show R.ok (Tm.d (.tup (cutL xs none (some (i : Int))))) h = _
  rw [cut_to hi]
theorem sl_from {xs : List D} {i : Nat} {h : AH} (hi : i ≤ xs.length) : slT (.d (.tup xs)) (some (i : Int)) none h = .ok (.d (.tup (xs.drop i))) h := by
  show R.ok (Tm.d (.tup (cutL xs (some (i : Int)) none))) h = _
  rw [cut_from hi]
theorem i_tup {xs : List D} {i : Nat} {x : D} {h : AH} (e : xs[i]? = some x) : ixT (.d (.tup xs)) (.d (.int (i : Int))) h = .ok (.d x) h := by
  have := L2.atI_nat e
  show (match viewS (.d (.tup xs)) h with
      | some ds => (match L2.atI ds (i : Int) with | some x => R.ok (Tm.d x) h | none => .err)
      | none => .err) = _
  simp only [viewS, this]
def b_no : Ss := (.cons (.ite (.or (.not (.call "_law_is_one_name" (.cons (.ix (.var 0) (.var 1)) .nil))) (.cmp .In (.ix (.var 0) (.var 1)) (.sl (.var 0) .no (.yes (.var 1))))) (.cons (.ret (.tup (.cons (.str "BadNames") (.cons (.var 1) .nil)))) .nil) .nil) .nil)
theorem no_body {wf k i : Nat} {ds : List D} {x : D} {h : AH} (e : ds[i]? = some x) (hx : plD x = true) (hg : ∀ y ∈ ds.take i, nmB y = true) :
    evSs (cfg Pg wf (k + 2)) wf b_no [some (.tup ds), some (.int i)] h = if badN ds i then .rt (.d (.tup [.str "BadNames", .int i])) h else .nx [some (.tup ds), some (.int i)] h := by
  have hi : i < ds.length := (List.getElem?_eq_some_iff.mp e).1
  have nm : ∀ h, callF Pg wf (k + 2) "_law_is_one_name" [.d x] h = .ok (.d (.bl (nmB x))) h := fun h => is_one_name_ok (.inl hx)
  have b0 : badN ds i = (!nmB x || (ds.take i).any fun y => eqF y x) := by unfold badN; simp only [e]
  cases q : nmB x with
  | false => simp -implicitDefEqProofs only [b_no, q_cons, q_nil, q_ite, kIte_a, kTw_t, kTw_f, q_set, kSet_a, kSo_a, q_setIx, kX1_a, kX2_a, kX3_a, kXo_a, q_ret, kRet_a, q_ex, kEx_a, q_raise, kRaise_a, q_ife, kIfe_a, kTe_t, kTe_f, q_and, kAnd_a, kAo_t, kAo_f, q_or, kOr_a, kOo_t, kOo_f, q_not, kNot_a, kNo_a, q_var, kVo_a, q_glob, kGo_a, q_int, q_bl, q_non, q_str, q_bin, kBin_a, kBin2_a, q_cmp, kCmp_a, kCmp2_a, q_ix, kIx_a, kIx2_a, q_neg, kNg_a, q_tup, kTup_b, q_lst, kLst_b, q_call, kCall_a, q_bi, kBi_a, q_isin, kIs_b, kIsO_a, q_consE, q_nilE, kEs_a, kEs2_a, q_chn, kC2_a, kC3_a, kC4_t, kC4_f, q_noC, q_yesC, kTr_a, kTb_a, kSome_a, kSt_t, kSt_f, q_comp, q_seq, kSeq_a, kSo2_a, q_for, kFor_a, q_rng1, kRng_a, q_enum, kEnum_a, q_fstr, kFs_a, q_consF, q_nilF, kF_a, q_fmt, kFm_a, kFmO_a, q_meth, kMe_a, kMe_b, kMe2_a, q_sl, kSl_a, kSl2_a, kSl3_a, q_rev, kRev_a, q_heard, kHd_ok, kHd_exc, q_par, kPa_a, kPa2_a, q_clr, q_noO, q_yesO, kOi_a, q_retN, q_pass, q_brk, q_cnt, R.bind_ok, R.out_ok, R.bind_exc, R.out_exc, sq_nx, sq_rt, sq_exc, sq_bk, sq_ct, t_bl, nam_d, nam_l, namAll_nil, namAll_cons, List.getElem?_cons_zero, List.getElem?_cons_succ, List.set_cons_zero, List.set_cons_succ, setTg_nm, List.length_cons, List.length_nil, Nat.reduceAdd, Nat.reduceLeDiff, Nat.zero_add, if_true, if_false, Bool.not_true, Bool.not_false, call_cfg, glob_cfg, i_tup e, nm, b0, q, Bool.true_or]
  | true =>
    have ci := c_in (b := .d (.tup (ds.take i))) (h := h) rfl (fun s z => by cases z) q hg
    cases q2 : (ds.take i).any fun y => eqF y x with
    | true => simp -implicitDefEqProofs only [b_no, q_cons, q_nil, q_ite, kIte_a, kTw_t, kTw_f, q_set, kSet_a, kSo_a, q_setIx, kX1_a, kX2_a, kX3_a, kXo_a, q_ret, kRet_a, q_ex, kEx_a, q_raise, kRaise_a, q_ife, kIfe_a, kTe_t, kTe_f, q_and, kAnd_a, kAo_t, kAo_f, q_or, kOr_a, kOo_t, kOo_f, q_not, kNot_a, kNo_a, q_var, kVo_a, q_glob, kGo_a, q_int, q_bl, q_non, q_str, q_bin, kBin_a, kBin2_a, q_cmp, kCmp_a, kCmp2_a, q_ix, kIx_a, kIx2_a, q_neg, kNg_a, q_tup, kTup_b, q_lst, kLst_b, q_call, kCall_a, q_bi, kBi_a, q_isin, kIs_b, kIsO_a, q_consE, q_nilE, kEs_a, kEs2_a, q_chn, kC2_a, kC3_a, kC4_t, kC4_f, q_noC, q_yesC, kTr_a, kTb_a, kSome_a, kSt_t, kSt_f, q_comp, q_seq, kSeq_a, kSo2_a, q_for, kFor_a, q_rng1, kRng_a, q_enum, kEnum_a, q_fstr, kFs_a, q_consF, q_nilF, kF_a, q_fmt, kFm_a, kFmO_a, q_meth, kMe_a, kMe_b, kMe2_a, q_sl, kSl_a, kSl2_a, kSl3_a, q_rev, kRev_a, q_heard, kHd_ok, kHd_exc, q_par, kPa_a, kPa2_a, q_clr, q_noO, q_yesO, kOi_a, q_retN, q_pass, q_brk, q_cnt, R.bind_ok, R.out_ok, R.bind_exc, R.out_exc, sq_nx, sq_rt, sq_exc, sq_bk, sq_ct, t_bl, nam_d, nam_l, namAll_nil, namAll_cons, List.getElem?_cons_zero, List.getElem?_cons_succ, List.set_cons_zero, List.set_cons_succ, setTg_nm, List.length_cons, List.length_nil, Nat.reduceAdd, Nat.reduceLeDiff, Nat.zero_add, if_true, if_false, Bool.not_true, Bool.not_false, call_cfg, glob_cfg, i_tup e, nm, b0, q, q2, ci, Bool.or_true, sl_to (show i ≤ ds.length by omega)]
    | false => simp -implicitDefEqProofs only [b_no, q_cons, q_nil, q_ite, kIte_a, kTw_t, kTw_f, q_set, kSet_a, kSo_a, q_setIx, kX1_a, kX2_a, kX3_a, kXo_a, q_ret, kRet_a, q_ex, kEx_a, q_raise, kRaise_a, q_ife, kIfe_a, kTe_t, kTe_f, q_and, kAnd_a, kAo_t, kAo_f, q_or, kOr_a, kOo_t, kOo_f, q_not, kNot_a, kNo_a, q_var, kVo_a, q_glob, kGo_a, q_int, q_bl, q_non, q_str, q_bin, kBin_a, kBin2_a, q_cmp, kCmp_a, kCmp2_a, q_ix, kIx_a, kIx2_a, q_neg, kNg_a, q_tup, kTup_b, q_lst, kLst_b, q_call, kCall_a, q_bi, kBi_a, q_isin, kIs_b, kIsO_a, q_consE, q_nilE, kEs_a, kEs2_a, q_chn, kC2_a, kC3_a, kC4_t, kC4_f, q_noC, q_yesC, kTr_a, kTb_a, kSome_a, kSt_t, kSt_f, q_comp, q_seq, kSeq_a, kSo2_a, q_for, kFor_a, q_rng1, kRng_a, q_enum, kEnum_a, q_fstr, kFs_a, q_consF, q_nilF, kF_a, q_fmt, kFm_a, kFmO_a, q_meth, kMe_a, kMe_b, kMe2_a, q_sl, kSl_a, kSl2_a, kSl3_a, q_rev, kRev_a, q_heard, kHd_ok, kHd_exc, q_par, kPa_a, kPa2_a, q_clr, q_noO, q_yesO, kOi_a, q_retN, q_pass, q_brk, q_cnt, R.bind_ok, R.out_ok, R.bind_exc, R.out_exc, sq_nx, sq_rt, sq_exc, sq_bk, sq_ct, t_bl, nam_d, nam_l, namAll_nil, namAll_cons, List.getElem?_cons_zero, List.getElem?_cons_succ, List.set_cons_zero, List.set_cons_succ, setTg_nm, List.length_cons, List.length_nil, Nat.reduceAdd, Nat.reduceLeDiff, Nat.zero_add, if_true, if_false, Bool.not_true, Bool.not_false, call_cfg, glob_cfg, i_tup e, nm, b0, q, q2, ci, Bool.or_false, sl_to (show i ≤ ds.length by omega), Bool.false_eq_true]
theorem rng_ok {n : Nat} (h : n ≤ 1000000) : (-(2 ^ 62) ≤ (n : Int) ∧ (n : Int) < 2 ^ 62) = True := eq_true ⟨by omega, by omega⟩
def noSt (ds : List D) : Nat → Sl
  | 0 => [some (.tup ds), none]
  | i + 1 => [some (.tup ds), some (.int i)]
theorem no_loop {wf k : Nat} {ds : List D} {h : AH} (hpd : plDs ds = true) : forL (rng1S (ds.length : Int)) (kBody (cfg Pg wf (k + 2)) wf (.nm 1) b_no) (rng1S (ds.length : Int)).len 0 [some (.tup ds), none] h = match badNm ds with
    | some i => .rt (.d (.tup [.str "BadNames", .int i])) h
    | none => .nx (noSt ds ds.length) h := by
  have ln : (rng1S (ds.length : Int)).len = ds.length := Int.toNat_natCast _
  rw [ln]
  have stp : ∀ i (b : Ss), kBody (cfg Pg wf (k + 2)) wf (.nm 1) b (.int (0 + (i : Nat))) (noSt ds i) h = evSs (cfg Pg wf (k + 2)) wf b [some (.tup ds), some (.int i)] h := fun i b => by
    rw [kBody_a setTg_nm, Int.zero_add]
    cases i <;> rfl
  have sc := forL_scan (s := rng1S (ds.length : Int)) (step := kBody (cfg Pg wf (k + 2)) wf (.nm 1) b_no) (n := ds.length) (noSt ds) (fun _ => h) (fun i => .int (0 + (i : Nat))) (fun i => if badN ds i then some (.rt (.d (.tup [.str "BadNames", .int i])) h) else none)
    (fun i hi => rfl) rfl
    (fun i hi hp2 hb => by
      have q : badN ds i = false := by cases z : badN ds i <;> simp [z] at hb ⊢
      have e : ds[i]? = some ds[i] := List.getElem?_eq_getElem hi
      rw [stp, no_body e (plDs_mem hpd (List.getElem_mem hi)) (good_before (by omega) fun j hj => ite_none (hp2 j hj)), q]
      rfl)
    (fun i o hi hp2 hb => by
      have q : badN ds i = true := by cases z : badN ds i <;> simp [z] at hb ⊢
      have e : ds[i]? = some ds[i] := List.getElem?_eq_getElem hi
      rw [stp, no_body e (plDs_mem hpd (List.getElem_mem hi)) (good_before (by omega) fun j hj => ite_none (hp2 j hj)), q]
      rw [q] at hb
      simp only [if_true, Option.some.injEq] at hb
      exact ⟨hb, .inl ⟨_, _, hb.symm⟩⟩) ds.length 0 (by omega) (fun j hj => by omega)
  rw [find_some] at sc
  unfold badNm
  cases q : (List.range' 0 ds.length).find? (badN ds) with
  | some i => rw [q] at sc; exact sc
  | none => rw [q] at sc; exact sc
theorem names_owed_ok {wf k : Nat} {d : D} {h : AH} (hv : Va d h) (hl : ∀ ds, d = .tup ds → ds.length ≤ 1000) : callF Pg wf (k + 3) "_law_names_owed" [.d d] h = .ok (.d (namesO d)) h := by
  refine call_rt (ds := [d]) fn_law_names_owed rfl ?_ rfl
  show evSs (cfg Pg wf (k + 2)) wf b_law_names_owed [some d, none] h = _
  have no : isTu d = false → namesO d = .tup [.str "BadNames", .int (-1)] := by intro e; cases d <;> first | rfl | cases e
  cases hs : isTu d with
  | false =>
    rw [no hs]
    simp -implicitDefEqProofs only [b_law_names_owed, q_cons, q_nil, q_ite, kIte_a, kTw_t, kTw_f, q_set, kSet_a, kSo_a, q_setIx, kX1_a, kX2_a, kX3_a, kXo_a, q_ret, kRet_a, q_ex, kEx_a, q_raise, kRaise_a, q_ife, kIfe_a, kTe_t, kTe_f, q_and, kAnd_a, kAo_t, kAo_f, q_or, kOr_a, kOo_t, kOo_f, q_not, kNot_a, kNo_a, q_var, kVo_a, q_glob, kGo_a, q_int, q_bl, q_non, q_str, q_bin, kBin_a, kBin2_a, q_cmp, kCmp_a, kCmp2_a, q_ix, kIx_a, kIx2_a, q_neg, kNg_a, q_tup, kTup_b, q_lst, kLst_b, q_call, kCall_a, q_bi, kBi_a, q_isin, kIs_b, kIsO_a, q_consE, q_nilE, kEs_a, kEs2_a, q_chn, kC2_a, kC3_a, kC4_t, kC4_f, q_noC, q_yesC, kTr_a, kTb_a, kSome_a, kSt_t, kSt_f, q_comp, q_seq, kSeq_a, kSo2_a, q_for, kFor_a, q_rng1, kRng_a, q_enum, kEnum_a, q_fstr, kFs_a, q_consF, q_nilF, kF_a, q_fmt, kFm_a, kFmO_a, q_meth, kMe_a, kMe_b, kMe2_a, q_sl, kSl_a, kSl2_a, kSl3_a, q_rev, kRev_a, q_heard, kHd_ok, kHd_exc, q_par, kPa_a, kPa2_a, q_clr, q_noO, q_yesO, kOi_a, q_retN, q_pass, q_brk, q_cnt, R.bind_ok, R.out_ok, R.bind_exc, R.out_exc, sq_nx, sq_rt, sq_exc, sq_bk, sq_ct, t_bl, nam_d, nam_l, namAll_nil, namAll_cons, List.getElem?_cons_zero, List.getElem?_cons_succ, List.set_cons_zero, List.set_cons_succ, setTg_nm, List.length_cons, List.length_nil, Nat.reduceAdd, Nat.reduceLeDiff, Nat.zero_add, if_true, if_false, Bool.not_true, Bool.not_false, call_cfg, glob_cfg, isT_tuple hv.vd, hs]
  | true =>
    cases d with
    | tup ds =>
      have hp := hv.pl_of (by intro n z; cases z)
      have hpd : plDs ds = true := by unfold plD at hp; exact hp
      unfold namesO
      by_cases hn : 60 < ds.length
      · have hn2 : (60 : Int) < ds.length := by omega
        simp -implicitDefEqProofs only [b_law_names_owed, q_cons, q_nil, q_ite, kIte_a, kTw_t, kTw_f, q_set, kSet_a, kSo_a, q_setIx, kX1_a, kX2_a, kX3_a, kXo_a, q_ret, kRet_a, q_ex, kEx_a, q_raise, kRaise_a, q_ife, kIfe_a, kTe_t, kTe_f, q_and, kAnd_a, kAo_t, kAo_f, q_or, kOr_a, kOo_t, kOo_f, q_not, kNot_a, kNo_a, q_var, kVo_a, q_glob, kGo_a, q_int, q_bl, q_non, q_str, q_bin, kBin_a, kBin2_a, q_cmp, kCmp_a, kCmp2_a, q_ix, kIx_a, kIx2_a, q_neg, kNg_a, q_tup, kTup_b, q_lst, kLst_b, q_call, kCall_a, q_bi, kBi_a, q_isin, kIs_b, kIsO_a, q_consE, q_nilE, kEs_a, kEs2_a, q_chn, kC2_a, kC3_a, kC4_t, kC4_f, q_noC, q_yesC, kTr_a, kTb_a, kSome_a, kSt_t, kSt_f, q_comp, q_seq, kSeq_a, kSo2_a, q_for, kFor_a, q_rng1, kRng_a, q_enum, kEnum_a, q_fstr, kFs_a, q_consF, q_nilF, kF_a, q_fmt, kFm_a, kFmO_a, q_meth, kMe_a, kMe_b, kMe2_a, q_sl, kSl_a, kSl2_a, kSl3_a, q_rev, kRev_a, q_heard, kHd_ok, kHd_exc, q_par, kPa_a, kPa2_a, q_clr, q_noO, q_yesO, kOi_a, q_retN, q_pass, q_brk, q_cnt, R.bind_ok, R.out_ok, R.bind_exc, R.out_exc, sq_nx, sq_rt, sq_exc, sq_bk, sq_ct, t_bl, nam_d, nam_l, namAll_nil, namAll_cons, List.getElem?_cons_zero, List.getElem?_cons_succ, List.set_cons_zero, List.set_cons_succ, setTg_nm, List.length_cons, List.length_nil, Nat.reduceAdd, Nat.reduceLeDiff, Nat.zero_add, if_true, if_false, Bool.not_true, Bool.not_false, call_cfg, glob_cfg, isT_tuple (Vd_pl hp), hs, b_lent, c_gt, decide_eq_true hn2, hn]
      · have hn2 : ¬ (60 : Int) < ds.length := by omega
        have ro := rng_ok (n := ds.length) (by have := hl _ rfl; omega)
        have sc := no_loop (wf := wf) (k := k) (h := h) hpd
        simp only [b_no] at sc
        cases q : badNm ds with
        | some i =>
          simp only [q] at sc
          simp -implicitDefEqProofs only [b_law_names_owed, q_cons, q_nil, q_ite, kIte_a, kTw_t, kTw_f, q_set, kSet_a, kSo_a, q_setIx, kX1_a, kX2_a, kX3_a, kXo_a, q_ret, kRet_a, q_ex, kEx_a, q_raise, kRaise_a, q_ife, kIfe_a, kTe_t, kTe_f, q_and, kAnd_a, kAo_t, kAo_f, q_or, kOr_a, kOo_t, kOo_f, q_not, kNot_a, kNo_a, q_var, kVo_a, q_glob, kGo_a, q_int, q_bl, q_non, q_str, q_bin, kBin_a, kBin2_a, q_cmp, kCmp_a, kCmp2_a, q_ix, kIx_a, kIx2_a, q_neg, kNg_a, q_tup, kTup_b, q_lst, kLst_b, q_call, kCall_a, q_bi, kBi_a, q_isin, kIs_b, kIsO_a, q_consE, q_nilE, kEs_a, kEs2_a, q_chn, kC2_a, kC3_a, kC4_t, kC4_f, q_noC, q_yesC, kTr_a, kTb_a, kSome_a, kSt_t, kSt_f, q_comp, q_seq, kSeq_a, kSo2_a, q_for, kFor_a, q_rng1, kRng_a, q_enum, kEnum_a, q_fstr, kFs_a, q_consF, q_nilF, kF_a, q_fmt, kFm_a, kFmO_a, q_meth, kMe_a, kMe_b, kMe2_a, q_sl, kSl_a, kSl2_a, kSl3_a, q_rev, kRev_a, q_heard, kHd_ok, kHd_exc, q_par, kPa_a, kPa2_a, q_clr, q_noO, q_yesO, kOi_a, q_retN, q_pass, q_brk, q_cnt, R.bind_ok, R.out_ok, R.bind_exc, R.out_exc, sq_nx, sq_rt, sq_exc, sq_bk, sq_ct, t_bl, nam_d, nam_l, namAll_nil, namAll_cons, List.getElem?_cons_zero, List.getElem?_cons_succ, List.set_cons_zero, List.set_cons_succ, setTg_nm, List.length_cons, List.length_nil, Nat.reduceAdd, Nat.reduceLeDiff, Nat.zero_add, if_true, if_false, Bool.not_true, Bool.not_false, call_cfg, glob_cfg, isT_tuple (Vd_pl hp), hs, b_lent, c_gt, decide_eq_false hn2, sc, kRng_a ro, hn, q]
        | none =>
          simp only [q] at sc
          have s0 : ∀ i, (noSt ds i)[0]? = some (some (.tup ds)) := fun i => by cases i <;> rfl
          simp -implicitDefEqProofs only [b_law_names_owed, q_cons, q_nil, q_ite, kIte_a, kTw_t, kTw_f, q_set, kSet_a, kSo_a, q_setIx, kX1_a, kX2_a, kX3_a, kXo_a, q_ret, kRet_a, q_ex, kEx_a, q_raise, kRaise_a, q_ife, kIfe_a, kTe_t, kTe_f, q_and, kAnd_a, kAo_t, kAo_f, q_or, kOr_a, kOo_t, kOo_f, q_not, kNot_a, kNo_a, q_var, kVo_a, q_glob, kGo_a, q_int, q_bl, q_non, q_str, q_bin, kBin_a, kBin2_a, q_cmp, kCmp_a, kCmp2_a, q_ix, kIx_a, kIx2_a, q_neg, kNg_a, q_tup, kTup_b, q_lst, kLst_b, q_call, kCall_a, q_bi, kBi_a, q_isin, kIs_b, kIsO_a, q_consE, q_nilE, kEs_a, kEs2_a, q_chn, kC2_a, kC3_a, kC4_t, kC4_f, q_noC, q_yesC, kTr_a, kTb_a, kSome_a, kSt_t, kSt_f, q_comp, q_seq, kSeq_a, kSo2_a, q_for, kFor_a, q_rng1, kRng_a, q_enum, kEnum_a, q_fstr, kFs_a, q_consF, q_nilF, kF_a, q_fmt, kFm_a, kFmO_a, q_meth, kMe_a, kMe_b, kMe2_a, q_sl, kSl_a, kSl2_a, kSl3_a, q_rev, kRev_a, q_heard, kHd_ok, kHd_exc, q_par, kPa_a, kPa2_a, q_clr, q_noO, q_yesO, kOi_a, q_retN, q_pass, q_brk, q_cnt, R.bind_ok, R.out_ok, R.bind_exc, R.out_exc, sq_nx, sq_rt, sq_exc, sq_bk, sq_ct, t_bl, nam_d, nam_l, namAll_nil, namAll_cons, List.getElem?_cons_zero, List.getElem?_cons_succ, List.set_cons_zero, List.set_cons_succ, setTg_nm, List.length_cons, List.length_nil, Nat.reduceAdd, Nat.reduceLeDiff, Nat.zero_add, if_true, if_false, Bool.not_true, Bool.not_false, call_cfg, glob_cfg, isT_tuple (Vd_pl hp), hs, b_lent, c_gt, decide_eq_false hn2, sc, kRng_a ro, hn, s0, q]
    | _ => cases hs
end K33

set_option Elab.async false
set_option linter.all false
set_option maxRecDepth 100000
set_option maxHeartbeats 4000000
/-! Pure9: sameness; runs. -/
namespace K33
open PySem Mill HeadK
/-! ### sameness -/
def lv : Nat → D → Prop
  | 0, d => flB d = true
  | n + 1, d => lv n d ∨ ∃ ds, d = .tup ds ∧ ds.length ≤ 1000 ∧ ∀ x ∈ ds, lv n x
theorem c_isnon {d : D} {h : AH} : cmpR .Is (.d d) (.d .non) h = .ok (.d (.bl (isNone (.d d)))) h := by cases d <;> rfl
theorem c_isnnon {d : D} {h : AH} : cmpR .IsNot (.d d) (.d .non) h = .ok (.d (.bl (!isNone (.d d)))) h := by cases d <;> rfl
theorem c_isbl {a b : Bool} {h : AH} : cmpR .Is (.d (.bl a)) (.d (.bl b)) h = .ok (.d (.bl (a == b))) h := rfl
theorem same_ok {wf : Nat} {h : AH} : ∀ (n k : Nat) {d : D}, lv n d → callF Pg wf (k + n + 2) "_law_same" [.d d, .d d] h = .ok (.d (.bl true)) h
  | 0, k, d, hd => by
    refine call_rt (ds := [d, d]) fn_law_same rfl ?_ rfl
    show evSs (cfg Pg wf (k + 1)) wf b_law_same [some d, some d, none] h = _
    have hd : flB d = true := hd
    cases d with
    | non => simp -implicitDefEqProofs only [b_law_same, q_cons, q_nil, q_ite, kIte_a, kTw_t, kTw_f, q_set, kSet_a, kSo_a, q_setIx, kX1_a, kX2_a, kX3_a, kXo_a, q_ret, kRet_a, q_ex, kEx_a, q_raise, kRaise_a, q_ife, kIfe_a, kTe_t, kTe_f, q_and, kAnd_a, kAo_t, kAo_f, q_or, kOr_a, kOo_t, kOo_f, q_not, kNot_a, kNo_a, q_var, kVo_a, q_glob, kGo_a, q_int, q_bl, q_non, q_str, q_bin, kBin_a, kBin2_a, q_cmp, kCmp_a, kCmp2_a, q_ix, kIx_a, kIx2_a, q_neg, kNg_a, q_tup, kTup_b, q_lst, kLst_b, q_call, kCall_a, q_bi, kBi_a, q_isin, kIs_b, kIsO_a, q_consE, q_nilE, kEs_a, kEs2_a, q_chn, kC2_a, kC3_a, kC4_t, kC4_f, q_noC, q_yesC, kTr_a, kTb_a, kSome_a, kSt_t, kSt_f, q_comp, q_seq, kSeq_a, kSo2_a, q_for, kFor_a, q_rng1, kRng_a, q_enum, kEnum_a, q_fstr, kFs_a, q_consF, q_nilF, kF_a, q_fmt, kFm_a, kFmO_a, q_meth, kMe_a, kMe_b, kMe2_a, q_sl, kSl_a, kSl2_a, kSl3_a, q_rev, kRev_a, q_heard, kHd_ok, kHd_exc, q_par, kPa_a, kPa2_a, q_clr, q_noO, q_yesO, kOi_a, q_retN, q_pass, q_brk, q_cnt, R.bind_ok, R.out_ok, R.bind_exc, R.out_exc, sq_nx, sq_rt, sq_exc, sq_bk, sq_ct, t_bl, nam_d, nam_l, namAll_nil, namAll_cons, List.getElem?_cons_zero, List.getElem?_cons_succ, List.set_cons_zero, List.set_cons_succ, setTg_nm, List.length_cons, List.length_nil, Nat.reduceAdd, Nat.reduceLeDiff, Nat.zero_add, if_true, if_false, Bool.not_true, Bool.not_false, call_cfg, glob_cfg, c_isnon, isNone]
    | bl b =>
      have v : Vd (.bl b) h := rfl
      cases b <;> simp -implicitDefEqProofs only [b_law_same, q_cons, q_nil, q_ite, kIte_a, kTw_t, kTw_f, q_set, kSet_a, kSo_a, q_setIx, kX1_a, kX2_a, kX3_a, kXo_a, q_ret, kRet_a, q_ex, kEx_a, q_raise, kRaise_a, q_ife, kIfe_a, kTe_t, kTe_f, q_and, kAnd_a, kAo_t, kAo_f, q_or, kOr_a, kOo_t, kOo_f, q_not, kNot_a, kNo_a, q_var, kVo_a, q_glob, kGo_a, q_int, q_bl, q_non, q_str, q_bin, kBin_a, kBin2_a, q_cmp, kCmp_a, kCmp2_a, q_ix, kIx_a, kIx2_a, q_neg, kNg_a, q_tup, kTup_b, q_lst, kLst_b, q_call, kCall_a, q_bi, kBi_a, q_isin, kIs_b, kIsO_a, q_consE, q_nilE, kEs_a, kEs2_a, q_chn, kC2_a, kC3_a, kC4_t, kC4_f, q_noC, q_yesC, kTr_a, kTb_a, kSome_a, kSt_t, kSt_f, q_comp, q_seq, kSeq_a, kSo2_a, q_for, kFor_a, q_rng1, kRng_a, q_enum, kEnum_a, q_fstr, kFs_a, q_consF, q_nilF, kF_a, q_fmt, kFm_a, kFmO_a, q_meth, kMe_a, kMe_b, kMe2_a, q_sl, kSl_a, kSl2_a, kSl3_a, q_rev, kRev_a, q_heard, kHd_ok, kHd_exc, q_par, kPa_a, kPa2_a, q_clr, q_noO, q_yesO, kOi_a, q_retN, q_pass, q_brk, q_cnt, R.bind_ok, R.out_ok, R.bind_exc, R.out_exc, sq_nx, sq_rt, sq_exc, sq_bk, sq_ct, t_bl, nam_d, nam_l, namAll_nil, namAll_cons, List.getElem?_cons_zero, List.getElem?_cons_succ, List.set_cons_zero, List.set_cons_succ, setTg_nm, List.length_cons, List.length_nil, Nat.reduceAdd, Nat.reduceLeDiff, Nat.zero_add, if_true, if_false, Bool.not_true, Bool.not_false, call_cfg, glob_cfg, c_isnon, isNone, isT_bool v, isBl, c_isbl] <;> rfl
    | int i =>
      have v : Vd (.int i) h := rfl
      have w : callF Pg wf (k + 1) "_law_is_whole" [.d (.int i)] h = .ok (.d (.bl true)) h := is_whole_ok rfl
      simp -implicitDefEqProofs only [b_law_same, q_cons, q_nil, q_ite, kIte_a, kTw_t, kTw_f, q_set, kSet_a, kSo_a, q_setIx, kX1_a, kX2_a, kX3_a, kXo_a, q_ret, kRet_a, q_ex, kEx_a, q_raise, kRaise_a, q_ife, kIfe_a, kTe_t, kTe_f, q_and, kAnd_a, kAo_t, kAo_f, q_or, kOr_a, kOo_t, kOo_f, q_not, kNot_a, kNo_a, q_var, kVo_a, q_glob, kGo_a, q_int, q_bl, q_non, q_str, q_bin, kBin_a, kBin2_a, q_cmp, kCmp_a, kCmp2_a, q_ix, kIx_a, kIx2_a, q_neg, kNg_a, q_tup, kTup_b, q_lst, kLst_b, q_call, kCall_a, q_bi, kBi_a, q_isin, kIs_b, kIsO_a, q_consE, q_nilE, kEs_a, kEs2_a, q_chn, kC2_a, kC3_a, kC4_t, kC4_f, q_noC, q_yesC, kTr_a, kTb_a, kSome_a, kSt_t, kSt_f, q_comp, q_seq, kSeq_a, kSo2_a, q_for, kFor_a, q_rng1, kRng_a, q_enum, kEnum_a, q_fstr, kFs_a, q_consF, q_nilF, kF_a, q_fmt, kFm_a, kFmO_a, q_meth, kMe_a, kMe_b, kMe2_a, q_sl, kSl_a, kSl2_a, kSl3_a, q_rev, kRev_a, q_heard, kHd_ok, kHd_exc, q_par, kPa_a, kPa2_a, q_clr, q_noO, q_yesO, kOi_a, q_retN, q_pass, q_brk, q_cnt, R.bind_ok, R.out_ok, R.bind_exc, R.out_exc, sq_nx, sq_rt, sq_exc, sq_bk, sq_ct, t_bl, nam_d, nam_l, namAll_nil, namAll_cons, List.getElem?_cons_zero, List.getElem?_cons_succ, List.set_cons_zero, List.set_cons_succ, setTg_nm, List.length_cons, List.length_nil, Nat.reduceAdd, Nat.reduceLeDiff, Nat.zero_add, if_true, if_false, Bool.not_true, Bool.not_false, call_cfg, glob_cfg, c_isnon, isNone, isT_bool v, isT_int v, isBl, isInt, w, c_eqi, beq_self_eq_true]
    | str s =>
      have v : Vd (.str s) h := rfl
      have ok : PyData.strOk s = true := hd
      simp -implicitDefEqProofs only [b_law_same, q_cons, q_nil, q_ite, kIte_a, kTw_t, kTw_f, q_set, kSet_a, kSo_a, q_setIx, kX1_a, kX2_a, kX3_a, kXo_a, q_ret, kRet_a, q_ex, kEx_a, q_raise, kRaise_a, q_ife, kIfe_a, kTe_t, kTe_f, q_and, kAnd_a, kAo_t, kAo_f, q_or, kOr_a, kOo_t, kOo_f, q_not, kNot_a, kNo_a, q_var, kVo_a, q_glob, kGo_a, q_int, q_bl, q_non, q_str, q_bin, kBin_a, kBin2_a, q_cmp, kCmp_a, kCmp2_a, q_ix, kIx_a, kIx2_a, q_neg, kNg_a, q_tup, kTup_b, q_lst, kLst_b, q_call, kCall_a, q_bi, kBi_a, q_isin, kIs_b, kIsO_a, q_consE, q_nilE, kEs_a, kEs2_a, q_chn, kC2_a, kC3_a, kC4_t, kC4_f, q_noC, q_yesC, kTr_a, kTb_a, kSome_a, kSt_t, kSt_f, q_comp, q_seq, kSeq_a, kSo2_a, q_for, kFor_a, q_rng1, kRng_a, q_enum, kEnum_a, q_fstr, kFs_a, q_consF, q_nilF, kF_a, q_fmt, kFm_a, kFmO_a, q_meth, kMe_a, kMe_b, kMe2_a, q_sl, kSl_a, kSl2_a, kSl3_a, q_rev, kRev_a, q_heard, kHd_ok, kHd_exc, q_par, kPa_a, kPa2_a, q_clr, q_noO, q_yesO, kOi_a, q_retN, q_pass, q_brk, q_cnt, R.bind_ok, R.out_ok, R.bind_exc, R.out_exc, sq_nx, sq_rt, sq_exc, sq_bk, sq_ct, t_bl, nam_d, nam_l, namAll_nil, namAll_cons, List.getElem?_cons_zero, List.getElem?_cons_succ, List.set_cons_zero, List.set_cons_succ, setTg_nm, List.length_cons, List.length_nil, Nat.reduceAdd, Nat.reduceLeDiff, Nat.zero_add, if_true, if_false, Bool.not_true, Bool.not_false, call_cfg, glob_cfg, c_isnon, isNone, isT_bool v, isT_int v, isT_str v, isBl, isInt, isStr, c_eqs ok ok, beq_self_eq_true]
    | tup _ => cases hd
    | ref _ => cases hd
    | fro _ => cases hd
  | n + 1, k, d, hd => by
    rcases hd with hd | ⟨ds, rfl, hl, hx⟩
    · have := same_ok (wf := wf) (h := h) n (k + 1) hd
      rw [show k + (n + 1) + 2 = k + 1 + n + 2 by omega]; exact this
    · rw [show k + (n + 1) + 2 = (k + n + 2) + 1 by omega]
      refine call_rt (ds := [.tup ds, .tup ds]) fn_law_same rfl ?_ rfl
      show evSs (cfg Pg wf (k + n + 2)) wf b_law_same [some (.tup ds), some (.tup ds), none] h = _
      have v : Vd (.tup ds) h := rfl
      have il : isT (.d (.tup ds)) "list" h = some false := by
        unfold isT tyT
        simp only; decide +kernel
      let st : Nat → Sl := fun i => match i with | 0 => [some (.tup ds), some (.tup ds), none] | i + 1 => [some (.tup ds), some (.tup ds), some (.int i)]
      let b : Ss := (.cons (.ite (.not (.call "_law_same" (.cons (.ix (.var 0) (.var 2)) (.cons (.ix (.var 1) (.var 2)) .nil)))) (.cons (.ret (.bl false)) .nil) .nil) .nil)
      have sc := forL_scan (s := rng1S (ds.length : Int)) (step := kBody (cfg Pg wf (k + n + 2)) wf (.nm 2) b) (n := ds.length) st (fun _ => h) (fun i => .int (0 + (i : Nat))) (fun i => none)
        (fun i hi => rfl) rfl
        (fun i hi _ _ => by
          have e : ds[i]? = some ds[i] := List.getElem?_eq_getElem hi
          have sm : callF Pg wf (k + n + 2) "_law_same" [.d ds[i], .d ds[i]] h = .ok (.d (.bl true)) h := same_ok n k (hx _ (List.getElem_mem hi))
          have : kBody (cfg Pg wf (k + n + 2)) wf (.nm 2) b (.int (0 + (i : Nat))) (st i) h = evSs (cfg Pg wf (k + n + 2)) wf b [some (.tup ds), some (.tup ds), some (.int i)] h := by
            rw [kBody_a setTg_nm, Int.zero_add]
            cases i <;> rfl
          rw [this]
          simp -implicitDefEqProofs only [b, q_cons, q_nil, q_ite, kIte_a, kTw_t, kTw_f, q_set, kSet_a, kSo_a, q_setIx, kX1_a, kX2_a, kX3_a, kXo_a, q_ret, kRet_a, q_ex, kEx_a, q_raise, kRaise_a, q_ife, kIfe_a, kTe_t, kTe_f, q_and, kAnd_a, kAo_t, kAo_f, q_or, kOr_a, kOo_t, kOo_f, q_not, kNot_a, kNo_a, q_var, kVo_a, q_glob, kGo_a, q_int, q_bl, q_non, q_str, q_bin, kBin_a, kBin2_a, q_cmp, kCmp_a, kCmp2_a, q_ix, kIx_a, kIx2_a, q_neg, kNg_a, q_tup, kTup_b, q_lst, kLst_b, q_call, kCall_a, q_bi, kBi_a, q_isin, kIs_b, kIsO_a, q_consE, q_nilE, kEs_a, kEs2_a, q_chn, kC2_a, kC3_a, kC4_t, kC4_f, q_noC, q_yesC, kTr_a, kTb_a, kSome_a, kSt_t, kSt_f, q_comp, q_seq, kSeq_a, kSo2_a, q_for, kFor_a, q_rng1, kRng_a, q_enum, kEnum_a, q_fstr, kFs_a, q_consF, q_nilF, kF_a, q_fmt, kFm_a, kFmO_a, q_meth, kMe_a, kMe_b, kMe2_a, q_sl, kSl_a, kSl2_a, kSl3_a, q_rev, kRev_a, q_heard, kHd_ok, kHd_exc, q_par, kPa_a, kPa2_a, q_clr, q_noO, q_yesO, kOi_a, q_retN, q_pass, q_brk, q_cnt, R.bind_ok, R.out_ok, R.bind_exc, R.out_exc, sq_nx, sq_rt, sq_exc, sq_bk, sq_ct, t_bl, nam_d, nam_l, namAll_nil, namAll_cons, List.getElem?_cons_zero, List.getElem?_cons_succ, List.set_cons_zero, List.set_cons_succ, setTg_nm, List.length_cons, List.length_nil, Nat.reduceAdd, Nat.reduceLeDiff, Nat.zero_add, if_true, if_false, Bool.not_true, Bool.not_false, call_cfg, glob_cfg, i_tup e, sm]
          rfl)
        (fun i o hi _ hb => by cases hb) ds.length 0 (by omega) (fun j hj => by omega)
      have fs : ∀ l : List Nat, l.findSome? (fun _ => (none : Option O)) = none := fun l => by induction l <;> simp_all
      rw [fs] at sc
      have ln : (rng1S (ds.length : Int)).len = ds.length := Int.toNat_natCast _
      rw [← ln] at sc
      have sc1 : forL (rng1S (ds.length : Int)) (kBody (cfg Pg wf (k + n + 2)) wf (.nm 2) b) (rng1S (ds.length : Int)).len 0 [some (.tup ds), some (.tup ds), none] h = .nx (st (rng1S (ds.length : Int)).len) h := sc
      simp only [b] at sc1
      have ro := rng_ok (n := ds.length) (by omega)
      simp -implicitDefEqProofs only [b_law_same, q_cons, q_nil, q_ite, kIte_a, kTw_t, kTw_f, q_set, kSet_a, kSo_a, q_setIx, kX1_a, kX2_a, kX3_a, kXo_a, q_ret, kRet_a, q_ex, kEx_a, q_raise, kRaise_a, q_ife, kIfe_a, kTe_t, kTe_f, q_and, kAnd_a, kAo_t, kAo_f, q_or, kOr_a, kOo_t, kOo_f, q_not, kNot_a, kNo_a, q_var, kVo_a, q_glob, kGo_a, q_int, q_bl, q_non, q_str, q_bin, kBin_a, kBin2_a, q_cmp, kCmp_a, kCmp2_a, q_ix, kIx_a, kIx2_a, q_neg, kNg_a, q_tup, kTup_b, q_lst, kLst_b, q_call, kCall_a, q_bi, kBi_a, q_isin, kIs_b, kIsO_a, q_consE, q_nilE, kEs_a, kEs2_a, q_chn, kC2_a, kC3_a, kC4_t, kC4_f, q_noC, q_yesC, kTr_a, kTb_a, kSome_a, kSt_t, kSt_f, q_comp, q_seq, kSeq_a, kSo2_a, q_for, kFor_a, q_rng1, kRng_a, q_enum, kEnum_a, q_fstr, kFs_a, q_consF, q_nilF, kF_a, q_fmt, kFm_a, kFmO_a, q_meth, kMe_a, kMe_b, kMe2_a, q_sl, kSl_a, kSl2_a, kSl3_a, q_rev, kRev_a, q_heard, kHd_ok, kHd_exc, q_par, kPa_a, kPa2_a, q_clr, q_noO, q_yesO, kOi_a, q_retN, q_pass, q_brk, q_cnt, R.bind_ok, R.out_ok, R.bind_exc, R.out_exc, sq_nx, sq_rt, sq_exc, sq_bk, sq_ct, t_bl, nam_d, nam_l, namAll_nil, namAll_cons, List.getElem?_cons_zero, List.getElem?_cons_succ, List.set_cons_zero, List.set_cons_succ, setTg_nm, List.length_cons, List.length_nil, Nat.reduceAdd, Nat.reduceLeDiff, Nat.zero_add, if_true, if_false, Bool.not_true, Bool.not_false, call_cfg, glob_cfg, c_isnon, isNone, isT_bool v, isT_int v, isT_str v, isT_tuple v, il, isBl, isInt, isStr, isTu, b_lent, c_nei, beq_self_eq_true, kRng_a ro, sc1]
/-! ### runs -/
def inR (d : D) : Bool := inB d 0 (10 ^ 20 - 1)
def badRi (ds : List D) (i : Nat) : Bool := match ds[i]? with
  | some x => !inR x
  | none => false
def badR (ds : List D) : Option Nat := (List.range' 0 ds.length).find? (badRi ds)
def runR (m : Nat) (d : D) (h : AH) : R Tm := match d with
  | .tup ds => if ds.length = m then (match badR ds with
    | some i => .exc "BadRun" (.int i) h
    | none => .ok (.d (.tup ds)) h) else .exc "BadRun" (.int (-1)) h
  | _ => .exc "BadRun" (.int (-1)) h
def runO (m : Nat) (d : D) : D := match d with
  | .tup ds => if ds.length = m then (match badR ds with
    | some i => .tup [.str "BadRun", .int i]
    | none => .non) else .tup [.str "BadRun", .int (-1)]
  | _ => .tup [.str "BadRun", .int (-1)]
def b_sr : Ss := (.cons (.ite (.not (.call "whole" (.cons (.var 3) (.cons (.int 0) (.cons (.glob "MOST_SPELT") .nil))))) (.cons (.raise "BadRun" (.var 2)) .nil) .nil) .nil)
def srSt (m : Nat) (ds : List D) : Nat → Sl
  | 0 => [some (.int m), some (.tup ds), none, none]
  | i + 1 => [some (.int m), some (.tup ds), some (.int i), ds[i]?]
theorem sr_loop {wf k m : Nat} {ds : List D} {h : AH} (hpd : plDs ds = true) : forL (Src.fix ds).enum (kBody (cfg Pg wf (k + 1)) wf (.tp [2, 3]) b_sr) (Src.fix ds).enum.len 0 [some (.int m), some (.tup ds), none, none] h = match badR ds with
    | some i => .exc "BadRun" (.int i) h
    | none => .nx (srSt m ds ds.length) h := by
  have bd : ∀ (i : Nat) (x : D), ds[i]? = some x → kBody (cfg Pg wf (k + 1)) wf (.tp [2, 3]) b_sr (.tup [.int i, x]) (srSt m ds i) h = if badRi ds i then .exc "BadRun" (.int i) h else .nx (srSt m ds (i + 1)) h := fun i x e => by
    have hx : plD x = true := plDs_mem hpd (List.mem_of_getElem? e)
    have w : callF Pg wf (k + 1) "whole" [.d x, .d (.int 0), .d (.int (10 ^ 20 - 1))] h = .ok (.d (.bl (inR x))) h := whole_ok (Vd_pl hx)
    have b0 : badRi ds i = !inR x := by unfold badRi; simp only [e]
    have : kBody (cfg Pg wf (k + 1)) wf (.tp [2, 3]) b_sr (.tup [.int i, x]) (srSt m ds i) h = evSs (cfg Pg wf (k + 1)) wf b_sr [some (.int m), some (.tup ds), some (.int i), some x] h := by
      rw [kBody_a setTg_tp2]
      cases i <;> rfl
    rw [this]
    cases q : inR x with
    | true => simp -implicitDefEqProofs only [b_sr, q_cons, q_nil, q_ite, kIte_a, kTw_t, kTw_f, q_set, kSet_a, kSo_a, q_setIx, kX1_a, kX2_a, kX3_a, kXo_a, q_ret, kRet_a, q_ex, kEx_a, q_raise, kRaise_a, q_ife, kIfe_a, kTe_t, kTe_f, q_and, kAnd_a, kAo_t, kAo_f, q_or, kOr_a, kOo_t, kOo_f, q_not, kNot_a, kNo_a, q_var, kVo_a, q_glob, kGo_a, q_int, q_bl, q_non, q_str, q_bin, kBin_a, kBin2_a, q_cmp, kCmp_a, kCmp2_a, q_ix, kIx_a, kIx2_a, q_neg, kNg_a, q_tup, kTup_b, q_lst, kLst_b, q_call, kCall_a, q_bi, kBi_a, q_isin, kIs_b, kIsO_a, q_consE, q_nilE, kEs_a, kEs2_a, q_chn, kC2_a, kC3_a, kC4_t, kC4_f, q_noC, q_yesC, kTr_a, kTb_a, kSome_a, kSt_t, kSt_f, q_comp, q_seq, kSeq_a, kSo2_a, q_for, kFor_a, q_rng1, kRng_a, q_enum, kEnum_a, q_fstr, kFs_a, q_consF, q_nilF, kF_a, q_fmt, kFm_a, kFmO_a, q_meth, kMe_a, kMe_b, kMe2_a, q_sl, kSl_a, kSl2_a, kSl3_a, q_rev, kRev_a, q_heard, kHd_ok, kHd_exc, q_par, kPa_a, kPa2_a, q_clr, q_noO, q_yesO, kOi_a, q_retN, q_pass, q_brk, q_cnt, R.bind_ok, R.out_ok, R.bind_exc, R.out_exc, sq_nx, sq_rt, sq_exc, sq_bk, sq_ct, t_bl, nam_d, nam_l, namAll_nil, namAll_cons, List.getElem?_cons_zero, List.getElem?_cons_succ, List.set_cons_zero, List.set_cons_succ, setTg_nm, List.length_cons, List.length_nil, Nat.reduceAdd, Nat.reduceLeDiff, Nat.zero_add, if_true, if_false, Bool.not_true, Bool.not_false, call_cfg, glob_cfg, w, q, b0, g_spelt, Bool.false_eq_true, srSt, e]
    | false => simp -implicitDefEqProofs only [b_sr, q_cons, q_nil, q_ite, kIte_a, kTw_t, kTw_f, q_set, kSet_a, kSo_a, q_setIx, kX1_a, kX2_a, kX3_a, kXo_a, q_ret, kRet_a, q_ex, kEx_a, q_raise, kRaise_a, q_ife, kIfe_a, kTe_t, kTe_f, q_and, kAnd_a, kAo_t, kAo_f, q_or, kOr_a, kOo_t, kOo_f, q_not, kNot_a, kNo_a, q_var, kVo_a, q_glob, kGo_a, q_int, q_bl, q_non, q_str, q_bin, kBin_a, kBin2_a, q_cmp, kCmp_a, kCmp2_a, q_ix, kIx_a, kIx2_a, q_neg, kNg_a, q_tup, kTup_b, q_lst, kLst_b, q_call, kCall_a, q_bi, kBi_a, q_isin, kIs_b, kIsO_a, q_consE, q_nilE, kEs_a, kEs2_a, q_chn, kC2_a, kC3_a, kC4_t, kC4_f, q_noC, q_yesC, kTr_a, kTb_a, kSome_a, kSt_t, kSt_f, q_comp, q_seq, kSeq_a, kSo2_a, q_for, kFor_a, q_rng1, kRng_a, q_enum, kEnum_a, q_fstr, kFs_a, q_consF, q_nilF, kF_a, q_fmt, kFm_a, kFmO_a, q_meth, kMe_a, kMe_b, kMe2_a, q_sl, kSl_a, kSl2_a, kSl3_a, q_rev, kRev_a, q_heard, kHd_ok, kHd_exc, q_par, kPa_a, kPa2_a, q_clr, q_noO, q_yesO, kOi_a, q_retN, q_pass, q_brk, q_cnt, R.bind_ok, R.out_ok, R.bind_exc, R.out_exc, sq_nx, sq_rt, sq_exc, sq_bk, sq_ct, t_bl, nam_d, nam_l, namAll_nil, namAll_cons, List.getElem?_cons_zero, List.getElem?_cons_succ, List.set_cons_zero, List.set_cons_succ, setTg_nm, List.length_cons, List.length_nil, Nat.reduceAdd, Nat.reduceLeDiff, Nat.zero_add, if_true, if_false, Bool.not_true, Bool.not_false, call_cfg, glob_cfg, w, q, b0, g_spelt]
  have sc := forL_scan (s := (Src.fix ds).enum) (step := kBody (cfg Pg wf (k + 1)) wf (.tp [2, 3]) b_sr) (n := ds.length) (srSt m ds) (fun _ => h) (fun i => .tup [.int i, (ds[i]?).getD .non]) (fun i => if badRi ds i then some (.exc "BadRun" (.int i) h) else none)
    (fun i hi => by
      show (ds[i]?).map _ = _
      rw [List.getElem?_eq_getElem hi]; rfl) rfl
    (fun i hi _ hb => by
      have e : ds[i]? = some ds[i] := List.getElem?_eq_getElem hi
      have := bd i _ e
      rw [ite_none hb] at this
      rw [e]; exact this)
    (fun i o hi _ hb => by
      have e : ds[i]? = some ds[i] := List.getElem?_eq_getElem hi
      have := bd i _ e
      cases q : badRi ds i with
      | false => rw [q] at hb; cases hb
      | true =>
        rw [q] at hb this
        cases hb
        rw [e]
        exact ⟨this, .inr ⟨_, _, _, rfl⟩⟩) ds.length 0 (by omega) (fun j hj => by omega)
  rw [find_some] at sc
  unfold badR
  cases q : (List.range' 0 ds.length).find? (badRi ds) with
  | some i => rw [q] at sc; exact sc
  | none => rw [q] at sc; exact sc
theorem map_id {ds : List D} : ds.filterMap (fun d => some d) = ds := by simp
theorem spelt_ok {wf k m : Nat} {d : D} {h : AH} (hv : Va d h) (hc : Cl h) (hl : ∀ ds, d = .tup ds → ds.length ≤ 1000) : callF Pg wf (k + 2) "spelt_run" [.d (.int m), .d d] h = runR m d h := by
  have no : isTu d = false → runR m d h = .exc "BadRun" (.int (-1)) h := by intro e; cases d <;> first | rfl | cases e
  cases hs : isTu d with
  | false =>
    rw [no hs]
    refine call_exc (ds := [.int m, d]) (e := []) fn_spelt_run rfl ?_ hc (by simp [below])
    show evSs (cfg Pg wf (k + 1)) wf b_spelt_run [some (.int m), some d, none, none] h = _
    simp -implicitDefEqProofs only [b_spelt_run, q_cons, q_nil, q_ite, kIte_a, kTw_t, kTw_f, q_set, kSet_a, kSo_a, q_setIx, kX1_a, kX2_a, kX3_a, kXo_a, q_ret, kRet_a, q_ex, kEx_a, q_raise, kRaise_a, q_ife, kIfe_a, kTe_t, kTe_f, q_and, kAnd_a, kAo_t, kAo_f, q_or, kOr_a, kOo_t, kOo_f, q_not, kNot_a, kNo_a, q_var, kVo_a, q_glob, kGo_a, q_int, q_bl, q_non, q_str, q_bin, kBin_a, kBin2_a, q_cmp, kCmp_a, kCmp2_a, q_ix, kIx_a, kIx2_a, q_neg, kNg_a, q_tup, kTup_b, q_lst, kLst_b, q_call, kCall_a, q_bi, kBi_a, q_isin, kIs_b, kIsO_a, q_consE, q_nilE, kEs_a, kEs2_a, q_chn, kC2_a, kC3_a, kC4_t, kC4_f, q_noC, q_yesC, kTr_a, kTb_a, kSome_a, kSt_t, kSt_f, q_comp, q_seq, kSeq_a, kSo2_a, q_for, kFor_a, q_rng1, kRng_a, q_enum, kEnum_a, q_fstr, kFs_a, q_consF, q_nilF, kF_a, q_fmt, kFm_a, kFmO_a, q_meth, kMe_a, kMe_b, kMe2_a, q_sl, kSl_a, kSl2_a, kSl3_a, q_rev, kRev_a, q_heard, kHd_ok, kHd_exc, q_par, kPa_a, kPa2_a, q_clr, q_noO, q_yesO, kOi_a, q_retN, q_pass, q_brk, q_cnt, R.bind_ok, R.out_ok, R.bind_exc, R.out_exc, sq_nx, sq_rt, sq_exc, sq_bk, sq_ct, t_bl, nam_d, nam_l, namAll_nil, namAll_cons, List.getElem?_cons_zero, List.getElem?_cons_succ, List.set_cons_zero, List.set_cons_succ, setTg_nm, List.length_cons, List.length_nil, Nat.reduceAdd, Nat.reduceLeDiff, Nat.zero_add, if_true, if_false, Bool.not_true, Bool.not_false, call_cfg, glob_cfg, isT_tuple hv.vd, hs, List.append_nil]
  | true =>
    cases d with
    | tup ds =>
      have hp := hv.pl_of (by intro n z; cases z)
      have hpd : plDs ds = true := by unfold plD at hp; exact hp
      unfold runR
      by_cases hn : ds.length = m
      · have hn2 : ((ds.length : Int) == (m : Int)) = true := by rw [hn]; simp
        have sc := sr_loop (wf := wf) (k := k) (m := m) (h := h) hpd
        simp only [b_sr] at sc
        simp only [hn, if_true]
        cases q : badR ds with
        | some i =>
          simp only [q] at sc
          refine call_exc (ds := [.int m, .tup ds]) (e := []) fn_spelt_run rfl ?_ hc (by simp [below])
          show evSs (cfg Pg wf (k + 1)) wf b_spelt_run [some (.int m), some (.tup ds), none, none] h = _
          simp -implicitDefEqProofs only [b_spelt_run, q_cons, q_nil, q_ite, kIte_a, kTw_t, kTw_f, q_set, kSet_a, kSo_a, q_setIx, kX1_a, kX2_a, kX3_a, kXo_a, q_ret, kRet_a, q_ex, kEx_a, q_raise, kRaise_a, q_ife, kIfe_a, kTe_t, kTe_f, q_and, kAnd_a, kAo_t, kAo_f, q_or, kOr_a, kOo_t, kOo_f, q_not, kNot_a, kNo_a, q_var, kVo_a, q_glob, kGo_a, q_int, q_bl, q_non, q_str, q_bin, kBin_a, kBin2_a, q_cmp, kCmp_a, kCmp2_a, q_ix, kIx_a, kIx2_a, q_neg, kNg_a, q_tup, kTup_b, q_lst, kLst_b, q_call, kCall_a, q_bi, kBi_a, q_isin, kIs_b, kIsO_a, q_consE, q_nilE, kEs_a, kEs2_a, q_chn, kC2_a, kC3_a, kC4_t, kC4_f, q_noC, q_yesC, kTr_a, kTb_a, kSome_a, kSt_t, kSt_f, q_comp, q_seq, kSeq_a, kSo2_a, q_for, kFor_a, q_rng1, kRng_a, q_enum, kEnum_a, q_fstr, kFs_a, q_consF, q_nilF, kF_a, q_fmt, kFm_a, kFmO_a, q_meth, kMe_a, kMe_b, kMe2_a, q_sl, kSl_a, kSl2_a, kSl3_a, q_rev, kRev_a, q_heard, kHd_ok, kHd_exc, q_par, kPa_a, kPa2_a, q_clr, q_noO, q_yesO, kOi_a, q_retN, q_pass, q_brk, q_cnt, R.bind_ok, R.out_ok, R.bind_exc, R.out_exc, sq_nx, sq_rt, sq_exc, sq_bk, sq_ct, t_bl, nam_d, nam_l, namAll_nil, namAll_cons, List.getElem?_cons_zero, List.getElem?_cons_succ, List.set_cons_zero, List.set_cons_succ, setTg_nm, List.length_cons, List.length_nil, Nat.reduceAdd, Nat.reduceLeDiff, Nat.zero_add, if_true, if_false, Bool.not_true, Bool.not_false, call_cfg, glob_cfg, isT_tuple (Vd_pl hp), hs, b_lent, c_nei, hn2, sc, List.append_nil]
        | none =>
          simp only [q] at sc
          refine call_rt (ds := [.int m, .tup ds]) fn_spelt_run rfl ?_ rfl
          show evSs (cfg Pg wf (k + 1)) wf b_spelt_run [some (.int m), some (.tup ds), none, none] h = _
          have v1 : ∀ i, (srSt m ds i)[1]? = some (some (.tup ds)) := fun i => by cases i <;> rfl
          have l3 : ∀ i (x : D), ((srSt m ds i).set 3 (some x))[3]? = some (some x) := fun i x => by cases i <;> rfl
          have cf := comp_fix (C := cfg Pg wf (k + 1)) (ρ := srSt m ds ds.length) (h := h) (elt := .var 3) (tg := .nm 3) (c := .no) (f := fun d => some d) (s := .fix ds) ds (fun i _ => rfl) rfl rfl (by have := hl _ rfl; omega) (fun d hd => by
            rw [kStep_a setTg_nm]
            simp -implicitDefEqProofs only [q_cons, q_nil, q_ite, kIte_a, kTw_t, kTw_f, q_set, kSet_a, kSo_a, q_setIx, kX1_a, kX2_a, kX3_a, kXo_a, q_ret, kRet_a, q_ex, kEx_a, q_raise, kRaise_a, q_ife, kIfe_a, kTe_t, kTe_f, q_and, kAnd_a, kAo_t, kAo_f, q_or, kOr_a, kOo_t, kOo_f, q_not, kNot_a, kNo_a, q_var, kVo_a, q_glob, kGo_a, q_int, q_bl, q_non, q_str, q_bin, kBin_a, kBin2_a, q_cmp, kCmp_a, kCmp2_a, q_ix, kIx_a, kIx2_a, q_neg, kNg_a, q_tup, kTup_b, q_lst, kLst_b, q_call, kCall_a, q_bi, kBi_a, q_isin, kIs_b, kIsO_a, q_consE, q_nilE, kEs_a, kEs2_a, q_chn, kC2_a, kC3_a, kC4_t, kC4_f, q_noC, q_yesC, kTr_a, kTb_a, kSome_a, kSt_t, kSt_f, q_comp, q_seq, kSeq_a, kSo2_a, q_for, kFor_a, q_rng1, kRng_a, q_enum, kEnum_a, q_fstr, kFs_a, q_consF, q_nilF, kF_a, q_fmt, kFm_a, kFmO_a, q_meth, kMe_a, kMe_b, kMe2_a, q_sl, kSl_a, kSl2_a, kSl3_a, q_rev, kRev_a, q_heard, kHd_ok, kHd_exc, q_par, kPa_a, kPa2_a, q_clr, q_noO, q_yesO, kOi_a, q_retN, q_pass, q_brk, q_cnt, R.bind_ok, R.out_ok, R.bind_exc, R.out_exc, sq_nx, sq_rt, sq_exc, sq_bk, sq_ct, t_bl, nam_d, nam_l, namAll_nil, namAll_cons, List.getElem?_cons_zero, List.getElem?_cons_succ, List.set_cons_zero, List.set_cons_succ, setTg_nm, List.length_cons, List.length_nil, Nat.reduceAdd, Nat.reduceLeDiff, Nat.zero_add, if_true, if_false, Bool.not_true, Bool.not_false, call_cfg, glob_cfg, l3])
          rw [map_id] at cf
          simp -implicitDefEqProofs only [b_spelt_run, q_cons, q_nil, q_ite, kIte_a, kTw_t, kTw_f, q_set, kSet_a, kSo_a, q_setIx, kX1_a, kX2_a, kX3_a, kXo_a, q_ret, kRet_a, q_ex, kEx_a, q_raise, kRaise_a, q_ife, kIfe_a, kTe_t, kTe_f, q_and, kAnd_a, kAo_t, kAo_f, q_or, kOr_a, kOo_t, kOo_f, q_not, kNot_a, kNo_a, q_var, kVo_a, q_glob, kGo_a, q_int, q_bl, q_non, q_str, q_bin, kBin_a, kBin2_a, q_cmp, kCmp_a, kCmp2_a, q_ix, kIx_a, kIx2_a, q_neg, kNg_a, q_tup, kTup_b, q_lst, kLst_b, q_call, kCall_a, q_bi, kBi_a, q_isin, kIs_b, kIsO_a, q_consE, q_nilE, kEs_a, kEs2_a, q_chn, kC2_a, kC3_a, kC4_t, kC4_f, q_noC, q_yesC, kTr_a, kTb_a, kSome_a, kSt_t, kSt_f, q_comp, q_seq, kSeq_a, kSo2_a, q_for, kFor_a, q_rng1, kRng_a, q_enum, kEnum_a, q_fstr, kFs_a, q_consF, q_nilF, kF_a, q_fmt, kFm_a, kFmO_a, q_meth, kMe_a, kMe_b, kMe2_a, q_sl, kSl_a, kSl2_a, kSl3_a, q_rev, kRev_a, q_heard, kHd_ok, kHd_exc, q_par, kPa_a, kPa2_a, q_clr, q_noO, q_yesO, kOi_a, q_retN, q_pass, q_brk, q_cnt, R.bind_ok, R.out_ok, R.bind_exc, R.out_exc, sq_nx, sq_rt, sq_exc, sq_bk, sq_ct, t_bl, nam_d, nam_l, namAll_nil, namAll_cons, List.getElem?_cons_zero, List.getElem?_cons_succ, List.set_cons_zero, List.set_cons_succ, setTg_nm, List.length_cons, List.length_nil, Nat.reduceAdd, Nat.reduceLeDiff, Nat.zero_add, if_true, if_false, Bool.not_true, Bool.not_false, call_cfg, glob_cfg, isT_tuple (Vd_pl hp), hs, b_lent, c_nei, hn2, sc, v1, src_tu, cf, b_tuplel]
      · have hn2 : ((ds.length : Int) == (m : Int)) = false := by simp; omega
        simp only [hn, if_false]
        refine call_exc (ds := [.int m, .tup ds]) (e := []) fn_spelt_run rfl ?_ hc (by simp [below])
        show evSs (cfg Pg wf (k + 1)) wf b_spelt_run [some (.int m), some (.tup ds), none, none] h = _
        simp -implicitDefEqProofs only [b_spelt_run, q_cons, q_nil, q_ite, kIte_a, kTw_t, kTw_f, q_set, kSet_a, kSo_a, q_setIx, kX1_a, kX2_a, kX3_a, kXo_a, q_ret, kRet_a, q_ex, kEx_a, q_raise, kRaise_a, q_ife, kIfe_a, kTe_t, kTe_f, q_and, kAnd_a, kAo_t, kAo_f, q_or, kOr_a, kOo_t, kOo_f, q_not, kNot_a, kNo_a, q_var, kVo_a, q_glob, kGo_a, q_int, q_bl, q_non, q_str, q_bin, kBin_a, kBin2_a, q_cmp, kCmp_a, kCmp2_a, q_ix, kIx_a, kIx2_a, q_neg, kNg_a, q_tup, kTup_b, q_lst, kLst_b, q_call, kCall_a, q_bi, kBi_a, q_isin, kIs_b, kIsO_a, q_consE, q_nilE, kEs_a, kEs2_a, q_chn, kC2_a, kC3_a, kC4_t, kC4_f, q_noC, q_yesC, kTr_a, kTb_a, kSome_a, kSt_t, kSt_f, q_comp, q_seq, kSeq_a, kSo2_a, q_for, kFor_a, q_rng1, kRng_a, q_enum, kEnum_a, q_fstr, kFs_a, q_consF, q_nilF, kF_a, q_fmt, kFm_a, kFmO_a, q_meth, kMe_a, kMe_b, kMe2_a, q_sl, kSl_a, kSl2_a, kSl3_a, q_rev, kRev_a, q_heard, kHd_ok, kHd_exc, q_par, kPa_a, kPa2_a, q_clr, q_noO, q_yesO, kOi_a, q_retN, q_pass, q_brk, q_cnt, R.bind_ok, R.out_ok, R.bind_exc, R.out_exc, sq_nx, sq_rt, sq_exc, sq_bk, sq_ct, t_bl, nam_d, nam_l, namAll_nil, namAll_cons, List.getElem?_cons_zero, List.getElem?_cons_succ, List.set_cons_zero, List.set_cons_succ, setTg_nm, List.length_cons, List.length_nil, Nat.reduceAdd, Nat.reduceLeDiff, Nat.zero_add, if_true, if_false, Bool.not_true, Bool.not_false, call_cfg, glob_cfg, isT_tuple (Vd_pl hp), hs, b_lent, c_nei, hn2, List.append_nil]
    | _ => cases hs
end K33

set_option Elab.async false
set_option linter.all false
set_option maxRecDepth 100000
set_option maxHeartbeats 4000000
/-! Pure10: runs as owed; lines of dates that slip. -/
namespace K33
open PySem Mill HeadK
theorem is_number_ok {wf k : Nat} {d : D} {lo hi : Int} {h : AH} (hv : Vd d h) : callF Pg wf (k + 2) "_law_is_number" [.d d, .d (.int lo), .d (.int hi)] h = .ok (.d (.bl (inB d lo hi))) h := by
  refine call_rt (ds := [d, .int lo, .int hi]) fn_law_is_number rfl ?_ rfl
  show evSs (cfg Pg wf (k + 1)) wf b_law_is_number [some d, some (.int lo), some (.int hi)] h = _
  have w : callF Pg wf (k + 1) "_law_is_whole" [.d d] h = .ok (.d (.bl (isI d))) h := is_whole_ok hv
  cases d with
  | int i =>
    by_cases hl : lo ≤ i
    · simp -implicitDefEqProofs only [b_law_is_number, q_cons, q_nil, q_ite, kIte_a, kTw_t, kTw_f, q_set, kSet_a, kSo_a, q_setIx, kX1_a, kX2_a, kX3_a, kXo_a, q_ret, kRet_a, q_ex, kEx_a, q_raise, kRaise_a, q_ife, kIfe_a, kTe_t, kTe_f, q_and, kAnd_a, kAo_t, kAo_f, q_or, kOr_a, kOo_t, kOo_f, q_not, kNot_a, kNo_a, q_var, kVo_a, q_glob, kGo_a, q_int, q_bl, q_non, q_str, q_bin, kBin_a, kBin2_a, q_cmp, kCmp_a, kCmp2_a, q_ix, kIx_a, kIx2_a, q_neg, kNg_a, q_tup, kTup_b, q_lst, kLst_b, q_call, kCall_a, q_bi, kBi_a, q_isin, kIs_b, kIsO_a, q_consE, q_nilE, kEs_a, kEs2_a, q_chn, kC2_a, kC3_a, kC4_t, kC4_f, q_noC, q_yesC, kTr_a, kTb_a, kSome_a, kSt_t, kSt_f, q_comp, q_seq, kSeq_a, kSo2_a, q_for, kFor_a, q_rng1, kRng_a, q_enum, kEnum_a, q_fstr, kFs_a, q_consF, q_nilF, kF_a, q_fmt, kFm_a, kFmO_a, q_meth, kMe_a, kMe_b, kMe2_a, q_sl, kSl_a, kSl2_a, kSl3_a, q_rev, kRev_a, q_heard, kHd_ok, kHd_exc, q_par, kPa_a, kPa2_a, q_clr, q_noO, q_yesO, kOi_a, q_retN, q_pass, q_brk, q_cnt, R.bind_ok, R.out_ok, R.bind_exc, R.out_exc, sq_nx, sq_rt, sq_exc, sq_bk, sq_ct, t_bl, nam_d, nam_l, namAll_nil, namAll_cons, List.getElem?_cons_zero, List.getElem?_cons_succ, List.set_cons_zero, List.set_cons_succ, setTg_nm, List.length_cons, List.length_nil, Nat.reduceAdd, Nat.reduceLeDiff, Nat.zero_add, if_true, if_false, Bool.not_true, Bool.not_false, call_cfg, glob_cfg, w, isI, c_le, decide_eq_true hl, inB, Bool.true_and]
    · simp -implicitDefEqProofs only [b_law_is_number, q_cons, q_nil, q_ite, kIte_a, kTw_t, kTw_f, q_set, kSet_a, kSo_a, q_setIx, kX1_a, kX2_a, kX3_a, kXo_a, q_ret, kRet_a, q_ex, kEx_a, q_raise, kRaise_a, q_ife, kIfe_a, kTe_t, kTe_f, q_and, kAnd_a, kAo_t, kAo_f, q_or, kOr_a, kOo_t, kOo_f, q_not, kNot_a, kNo_a, q_var, kVo_a, q_glob, kGo_a, q_int, q_bl, q_non, q_str, q_bin, kBin_a, kBin2_a, q_cmp, kCmp_a, kCmp2_a, q_ix, kIx_a, kIx2_a, q_neg, kNg_a, q_tup, kTup_b, q_lst, kLst_b, q_call, kCall_a, q_bi, kBi_a, q_isin, kIs_b, kIsO_a, q_consE, q_nilE, kEs_a, kEs2_a, q_chn, kC2_a, kC3_a, kC4_t, kC4_f, q_noC, q_yesC, kTr_a, kTb_a, kSome_a, kSt_t, kSt_f, q_comp, q_seq, kSeq_a, kSo2_a, q_for, kFor_a, q_rng1, kRng_a, q_enum, kEnum_a, q_fstr, kFs_a, q_consF, q_nilF, kF_a, q_fmt, kFm_a, kFmO_a, q_meth, kMe_a, kMe_b, kMe2_a, q_sl, kSl_a, kSl2_a, kSl3_a, q_rev, kRev_a, q_heard, kHd_ok, kHd_exc, q_par, kPa_a, kPa2_a, q_clr, q_noO, q_yesO, kOi_a, q_retN, q_pass, q_brk, q_cnt, R.bind_ok, R.out_ok, R.bind_exc, R.out_exc, sq_nx, sq_rt, sq_exc, sq_bk, sq_ct, t_bl, nam_d, nam_l, namAll_nil, namAll_cons, List.getElem?_cons_zero, List.getElem?_cons_succ, List.set_cons_zero, List.set_cons_succ, setTg_nm, List.length_cons, List.length_nil, Nat.reduceAdd, Nat.reduceLeDiff, Nat.zero_add, if_true, if_false, Bool.not_true, Bool.not_false, call_cfg, glob_cfg, w, isI, c_le, decide_eq_false hl, inB, Bool.false_and]
  | _ => simp -implicitDefEqProofs only [b_law_is_number, q_cons, q_nil, q_ite, kIte_a, kTw_t, kTw_f, q_set, kSet_a, kSo_a, q_setIx, kX1_a, kX2_a, kX3_a, kXo_a, q_ret, kRet_a, q_ex, kEx_a, q_raise, kRaise_a, q_ife, kIfe_a, kTe_t, kTe_f, q_and, kAnd_a, kAo_t, kAo_f, q_or, kOr_a, kOo_t, kOo_f, q_not, kNot_a, kNo_a, q_var, kVo_a, q_glob, kGo_a, q_int, q_bl, q_non, q_str, q_bin, kBin_a, kBin2_a, q_cmp, kCmp_a, kCmp2_a, q_ix, kIx_a, kIx2_a, q_neg, kNg_a, q_tup, kTup_b, q_lst, kLst_b, q_call, kCall_a, q_bi, kBi_a, q_isin, kIs_b, kIsO_a, q_consE, q_nilE, kEs_a, kEs2_a, q_chn, kC2_a, kC3_a, kC4_t, kC4_f, q_noC, q_yesC, kTr_a, kTb_a, kSome_a, kSt_t, kSt_f, q_comp, q_seq, kSeq_a, kSo2_a, q_for, kFor_a, q_rng1, kRng_a, q_enum, kEnum_a, q_fstr, kFs_a, q_consF, q_nilF, kF_a, q_fmt, kFm_a, kFmO_a, q_meth, kMe_a, kMe_b, kMe2_a, q_sl, kSl_a, kSl2_a, kSl3_a, q_rev, kRev_a, q_heard, kHd_ok, kHd_exc, q_par, kPa_a, kPa2_a, q_clr, q_noO, q_yesO, kOi_a, q_retN, q_pass, q_brk, q_cnt, R.bind_ok, R.out_ok, R.bind_exc, R.out_exc, sq_nx, sq_rt, sq_exc, sq_bk, sq_ct, t_bl, nam_d, nam_l, namAll_nil, namAll_cons, List.getElem?_cons_zero, List.getElem?_cons_succ, List.set_cons_zero, List.set_cons_succ, setTg_nm, List.length_cons, List.length_nil, Nat.reduceAdd, Nat.reduceLeDiff, Nat.zero_add, if_true, if_false, Bool.not_true, Bool.not_false, call_cfg, glob_cfg, w, isI, inB]
theorem n_pow20 {h : AH} : binT .Pow (.d (.int 10)) (.d (.int 20)) h = .ok (.d (.int (10 ^ 20))) h := by kernel_rfl
theorem find_head (ds : List D) : ((List.range ds.length).filter (badRi ds)).head? = badR ds := by
  unfold badR
  rw [List.head?_filter, List.range_eq_range']
theorem i_l0 {ds : List D} {x : D} {n : Nat} {h : AH} (e : h[n]? = some (.lst ds)) (e2 : ds[0]? = some x) : ixT (.d (.ref n)) (.d (.int 0)) h = .ok (.d x) h := i_ref e (by
  have := L2.atI_nat e2
  exact this)
theorem c_nref {n : Nat} {ds : List D} {h : AH} (e : h[n]? = some (.lst ds)) (hf : ∀ d ∈ ds, flB d = true) : cmpR .NotEq (.d (.ref n)) (.l []) h = .ok (.d (.bl (!ds.isEmpty))) h := by
  have : cmpR .NotEq (.d (.ref n)) (.l []) h = cmpR .NotEq (.l ds) (.l []) h := by
    unfold cmpR cmpT eqT pyT
    simp only [e]
  rw [this]; exact c_nnil hf
theorem run_owed_ok {wf k m : Nat} {d : D} {h : AH} (hv : Va d h) (hc : Cl h) (hl : ∀ ds, d = .tup ds → ds.length ≤ 1000) : callF Pg wf (k + 3) "_law_run_owed" [.d (.int m), .d d] h = .ok (.d (runO m d)) h := by
  have no : isTu d = false → runO m d = .tup [.str "BadRun", .int (-1)] := by intro e; cases d <;> first | rfl | cases e
  cases hs : isTu d with
  | false =>
    rw [no hs]
    refine call_rt (ds := [.int m, d]) fn_law_run_owed rfl ?_ rfl
    show evSs (cfg Pg wf (k + 2)) wf b_law_run_owed [some (.int m), some d, none, none] h = _
    simp -implicitDefEqProofs only [b_law_run_owed, q_cons, q_nil, q_ite, kIte_a, kTw_t, kTw_f, q_set, kSet_a, kSo_a, q_setIx, kX1_a, kX2_a, kX3_a, kXo_a, q_ret, kRet_a, q_ex, kEx_a, q_raise, kRaise_a, q_ife, kIfe_a, kTe_t, kTe_f, q_and, kAnd_a, kAo_t, kAo_f, q_or, kOr_a, kOo_t, kOo_f, q_not, kNot_a, kNo_a, q_var, kVo_a, q_glob, kGo_a, q_int, q_bl, q_non, q_str, q_bin, kBin_a, kBin2_a, q_cmp, kCmp_a, kCmp2_a, q_ix, kIx_a, kIx2_a, q_neg, kNg_a, q_tup, kTup_b, q_lst, kLst_b, q_call, kCall_a, q_bi, kBi_a, q_isin, kIs_b, kIsO_a, q_consE, q_nilE, kEs_a, kEs2_a, q_chn, kC2_a, kC3_a, kC4_t, kC4_f, q_noC, q_yesC, kTr_a, kTb_a, kSome_a, kSt_t, kSt_f, q_comp, q_seq, kSeq_a, kSo2_a, q_for, kFor_a, q_rng1, kRng_a, q_enum, kEnum_a, q_fstr, kFs_a, q_consF, q_nilF, kF_a, q_fmt, kFm_a, kFmO_a, q_meth, kMe_a, kMe_b, kMe2_a, q_sl, kSl_a, kSl2_a, kSl3_a, q_rev, kRev_a, q_heard, kHd_ok, kHd_exc, q_par, kPa_a, kPa2_a, q_clr, q_noO, q_yesO, kOi_a, q_retN, q_pass, q_brk, q_cnt, R.bind_ok, R.out_ok, R.bind_exc, R.out_exc, sq_nx, sq_rt, sq_exc, sq_bk, sq_ct, t_bl, nam_d, nam_l, namAll_nil, namAll_cons, List.getElem?_cons_zero, List.getElem?_cons_succ, List.set_cons_zero, List.set_cons_succ, setTg_nm, List.length_cons, List.length_nil, Nat.reduceAdd, Nat.reduceLeDiff, Nat.zero_add, if_true, if_false, Bool.not_true, Bool.not_false, call_cfg, glob_cfg, isT_tuple hv.vd, hs]
  | true =>
    cases d with
    | tup ds =>
      have hp := hv.pl_of (by intro n z; cases z)
      have hpd : plDs ds = true := by unfold plD at hp; exact hp
      unfold runO
      by_cases hn : ds.length = m
      · have hn2 : ((ds.length : Int) == (m : Int)) = true := by rw [hn]; simp
        simp only [hn, if_true]
        have ro := rng_ok (n := m) (by have := hl _ rfl; omega)
        let f : D → Option D := fun d => match d with | .int i => if badRi ds i.toNat then some (.int i) else none | _ => none
        have cf := comp_fix (C := cfg Pg wf (k + 2)) (ρ := [some (.int m), some (.tup ds), none, none]) (h := h) (elt := .var 3) (tg := .nm 3) (c := (.yes (.not (.call "_law_is_number" (.cons (.ix (.var 1) (.var 3)) (.cons (.int 0) (.cons (.bin .Sub (.bin .Pow (.int 10) (.int 20)) (.int 1)) .nil))))))) (f := f) (s := rng1S (m : Int)) ((List.range m).map fun (i : Nat) => D.int (i : Int)) (fun i hi => by
            rw [List.length_map, List.length_range] at hi
            rw [List.getElem?_map, List.getElem?_range hi]
            show some (D.int (0 + (i : Int))) = _
            rw [Int.zero_add]; rfl) (by rw [List.length_map, List.length_range]; exact Int.toNat_natCast _) rfl (by rw [List.length_map, List.length_range]; have := hl _ rfl; omega) (fun d hd => by
            obtain ⟨i, hi, rfl⟩ := List.mem_map.mp hd
            have hi : i < ds.length := by rw [hn]; exact List.mem_range.mp hi
            have e : ds[i]? = some ds[i] := List.getElem?_eq_getElem hi
            have hx : plD ds[i] = true := plDs_mem hpd (List.getElem_mem hi)
            have w : callF Pg wf (k + 2) "_law_is_number" [.d ds[i], .d (.int 0), .d (.int (10 ^ 20 - 1))] h = .ok (.d (.bl (inR ds[i]))) h := is_number_ok (Vd_pl hx)
            have b0 : badRi ds i = !inR ds[i] := by unfold badRi; simp only [e]
            rw [kStep_a setTg_nm]
            have ff : f (.int (i : Int)) = if badRi ds i then some (.int i) else none := by
              show (if badRi ds (i : Int).toNat then _ else _) = _
              rw [Int.toNat_natCast]
            rw [ff]
            cases q : inR ds[i] <;> simp -implicitDefEqProofs only [q_cons, q_nil, q_ite, kIte_a, kTw_t, kTw_f, q_set, kSet_a, kSo_a, q_setIx, kX1_a, kX2_a, kX3_a, kXo_a, q_ret, kRet_a, q_ex, kEx_a, q_raise, kRaise_a, q_ife, kIfe_a, kTe_t, kTe_f, q_and, kAnd_a, kAo_t, kAo_f, q_or, kOr_a, kOo_t, kOo_f, q_not, kNot_a, kNo_a, q_var, kVo_a, q_glob, kGo_a, q_int, q_bl, q_non, q_str, q_bin, kBin_a, kBin2_a, q_cmp, kCmp_a, kCmp2_a, q_ix, kIx_a, kIx2_a, q_neg, kNg_a, q_tup, kTup_b, q_lst, kLst_b, q_call, kCall_a, q_bi, kBi_a, q_isin, kIs_b, kIsO_a, q_consE, q_nilE, kEs_a, kEs2_a, q_chn, kC2_a, kC3_a, kC4_t, kC4_f, q_noC, q_yesC, kTr_a, kTb_a, kSome_a, kSt_t, kSt_f, q_comp, q_seq, kSeq_a, kSo2_a, q_for, kFor_a, q_rng1, kRng_a, q_enum, kEnum_a, q_fstr, kFs_a, q_consF, q_nilF, kF_a, q_fmt, kFm_a, kFmO_a, q_meth, kMe_a, kMe_b, kMe2_a, q_sl, kSl_a, kSl2_a, kSl3_a, q_rev, kRev_a, q_heard, kHd_ok, kHd_exc, q_par, kPa_a, kPa2_a, q_clr, q_noO, q_yesO, kOi_a, q_retN, q_pass, q_brk, q_cnt, R.bind_ok, R.out_ok, R.bind_exc, R.out_exc, sq_nx, sq_rt, sq_exc, sq_bk, sq_ct, t_bl, nam_d, nam_l, namAll_nil, namAll_cons, List.getElem?_cons_zero, List.getElem?_cons_succ, List.set_cons_zero, List.set_cons_succ, setTg_nm, List.length_cons, List.length_nil, Nat.reduceAdd, Nat.reduceLeDiff, Nat.zero_add, if_true, if_false, Bool.not_true, Bool.not_false, call_cfg, glob_cfg, i_tup e, n_pow20, n_sub, w, q, b0] <;> rfl)
        have fm : ((List.range m).map fun (i : Nat) => D.int (i : Int)).filterMap f = ((List.range m).filter (badRi ds)).map fun (i : Nat) => D.int (i : Int) := by
          rw [List.filterMap_map]
          induction List.range m with
          | nil => rfl
          | cons i l ih =>
            rw [List.filterMap_cons, List.filter_cons]
            have ff : (f ∘ fun (i : Nat) => D.int (i : Int)) i = if badRi ds i then some (.int i) else none := by
              show (if badRi ds (i : Int).toNat then _ else _) = _
              rw [Int.toNat_natCast]
            rw [ff]
            cases badRi ds i <;> simp [ih]
        rw [fm] at cf
        have fh := find_head ds
        rw [hn] at fh
        generalize hb : (List.range m).filter (badRi ds) = bad at cf fh
        have fl : ∀ d ∈ bad.map fun (i : Nat) => D.int (i : Int), flB d = true := fun d hd => by
          obtain ⟨i, _, rfl⟩ := List.mem_map.mp hd
          rfl
        have at0 : (h ++ [Cell.lst (bad.map fun (i : Nat) => D.int (i : Int))])[h.length]? = some (.lst (bad.map fun (i : Nat) => D.int (i : Int))) := hat0
        have ne := c_nref at0 fl
        cases q : badR ds with
        | some i =>
          rw [q] at fh
          refine call_cut (ds := [.int m, .tup ds]) (h1 := h) (e := [.lst (bad.map fun (i : Nat) => D.int (i : Int))]) fn_law_run_owed rfl ?_ rfl hc (by simp [below, belows])
          show evSs (cfg Pg wf (k + 2)) wf b_law_run_owed [some (.int m), some (.tup ds), none, none] h = _
          obtain ⟨l, rfl⟩ : ∃ l, bad = i :: l := by
            cases bad with
            | nil => cases fh
            | cons a l => cases fh; exact ⟨_, rfl⟩
          have i0 := i_l0 at0 (x := .int i) rfl
          have em : ((i :: l).map fun (i : Nat) => D.int (i : Int)).isEmpty = false := rfl
          simp -implicitDefEqProofs only [b_law_run_owed, q_cons, q_nil, q_ite, kIte_a, kTw_t, kTw_f, q_set, kSet_a, kSo_a, q_setIx, kX1_a, kX2_a, kX3_a, kXo_a, q_ret, kRet_a, q_ex, kEx_a, q_raise, kRaise_a, q_ife, kIfe_a, kTe_t, kTe_f, q_and, kAnd_a, kAo_t, kAo_f, q_or, kOr_a, kOo_t, kOo_f, q_not, kNot_a, kNo_a, q_var, kVo_a, q_glob, kGo_a, q_int, q_bl, q_non, q_str, q_bin, kBin_a, kBin2_a, q_cmp, kCmp_a, kCmp2_a, q_ix, kIx_a, kIx2_a, q_neg, kNg_a, q_tup, kTup_b, q_lst, kLst_b, q_call, kCall_a, q_bi, kBi_a, q_isin, kIs_b, kIsO_a, q_consE, q_nilE, kEs_a, kEs2_a, q_chn, kC2_a, kC3_a, kC4_t, kC4_f, q_noC, q_yesC, kTr_a, kTb_a, kSome_a, kSt_t, kSt_f, q_comp, q_seq, kSeq_a, kSo2_a, q_for, kFor_a, q_rng1, kRng_a, q_enum, kEnum_a, q_fstr, kFs_a, q_consF, q_nilF, kF_a, q_fmt, kFm_a, kFmO_a, q_meth, kMe_a, kMe_b, kMe2_a, q_sl, kSl_a, kSl2_a, kSl3_a, q_rev, kRev_a, q_heard, kHd_ok, kHd_exc, q_par, kPa_a, kPa2_a, q_clr, q_noO, q_yesO, kOi_a, q_retN, q_pass, q_brk, q_cnt, R.bind_ok, R.out_ok, R.bind_exc, R.out_exc, sq_nx, sq_rt, sq_exc, sq_bk, sq_ct, t_bl, nam_d, nam_l, namAll_nil, namAll_cons, List.getElem?_cons_zero, List.getElem?_cons_succ, List.set_cons_zero, List.set_cons_succ, setTg_nm, List.length_cons, List.length_nil, Nat.reduceAdd, Nat.reduceLeDiff, Nat.zero_add, if_true, if_false, Bool.not_true, Bool.not_false, call_cfg, glob_cfg, isT_tuple (Vd_pl hp), hs, b_lent, c_nei, hn2, kRng_a ro, cf, ne, i0, em]
        | none =>
          rw [q] at fh
          refine call_cut (ds := [.int m, .tup ds]) (h1 := h) (e := [.lst (bad.map fun (i : Nat) => D.int (i : Int))]) fn_law_run_owed rfl ?_ rfl hc (by simp [below, belows])
          show evSs (cfg Pg wf (k + 2)) wf b_law_run_owed [some (.int m), some (.tup ds), none, none] h = _
          obtain rfl : bad = [] := by
            cases bad with
            | nil => rfl
            | cons a l => cases fh
          simp -implicitDefEqProofs only [b_law_run_owed, q_cons, q_nil, q_ite, kIte_a, kTw_t, kTw_f, q_set, kSet_a, kSo_a, q_setIx, kX1_a, kX2_a, kX3_a, kXo_a, q_ret, kRet_a, q_ex, kEx_a, q_raise, kRaise_a, q_ife, kIfe_a, kTe_t, kTe_f, q_and, kAnd_a, kAo_t, kAo_f, q_or, kOr_a, kOo_t, kOo_f, q_not, kNot_a, kNo_a, q_var, kVo_a, q_glob, kGo_a, q_int, q_bl, q_non, q_str, q_bin, kBin_a, kBin2_a, q_cmp, kCmp_a, kCmp2_a, q_ix, kIx_a, kIx2_a, q_neg, kNg_a, q_tup, kTup_b, q_lst, kLst_b, q_call, kCall_a, q_bi, kBi_a, q_isin, kIs_b, kIsO_a, q_consE, q_nilE, kEs_a, kEs2_a, q_chn, kC2_a, kC3_a, kC4_t, kC4_f, q_noC, q_yesC, kTr_a, kTb_a, kSome_a, kSt_t, kSt_f, q_comp, q_seq, kSeq_a, kSo2_a, q_for, kFor_a, q_rng1, kRng_a, q_enum, kEnum_a, q_fstr, kFs_a, q_consF, q_nilF, kF_a, q_fmt, kFm_a, kFmO_a, q_meth, kMe_a, kMe_b, kMe2_a, q_sl, kSl_a, kSl2_a, kSl3_a, q_rev, kRev_a, q_heard, kHd_ok, kHd_exc, q_par, kPa_a, kPa2_a, q_clr, q_noO, q_yesO, kOi_a, q_retN, q_pass, q_brk, q_cnt, R.bind_ok, R.out_ok, R.bind_exc, R.out_exc, sq_nx, sq_rt, sq_exc, sq_bk, sq_ct, t_bl, nam_d, nam_l, namAll_nil, namAll_cons, List.getElem?_cons_zero, List.getElem?_cons_succ, List.set_cons_zero, List.set_cons_succ, setTg_nm, List.length_cons, List.length_nil, Nat.reduceAdd, Nat.reduceLeDiff, Nat.zero_add, if_true, if_false, Bool.not_true, Bool.not_false, call_cfg, glob_cfg, isT_tuple (Vd_pl hp), hs, b_lent, c_nei, hn2, kRng_a ro, cf, ne]
          rfl
      · have hn2 : ((ds.length : Int) == (m : Int)) = false := by simp; omega
        simp only [hn, if_false]
        refine call_rt (ds := [.int m, .tup ds]) fn_law_run_owed rfl ?_ rfl
        show evSs (cfg Pg wf (k + 2)) wf b_law_run_owed [some (.int m), some (.tup ds), none, none] h = _
        simp -implicitDefEqProofs only [b_law_run_owed, q_cons, q_nil, q_ite, kIte_a, kTw_t, kTw_f, q_set, kSet_a, kSo_a, q_setIx, kX1_a, kX2_a, kX3_a, kXo_a, q_ret, kRet_a, q_ex, kEx_a, q_raise, kRaise_a, q_ife, kIfe_a, kTe_t, kTe_f, q_and, kAnd_a, kAo_t, kAo_f, q_or, kOr_a, kOo_t, kOo_f, q_not, kNot_a, kNo_a, q_var, kVo_a, q_glob, kGo_a, q_int, q_bl, q_non, q_str, q_bin, kBin_a, kBin2_a, q_cmp, kCmp_a, kCmp2_a, q_ix, kIx_a, kIx2_a, q_neg, kNg_a, q_tup, kTup_b, q_lst, kLst_b, q_call, kCall_a, q_bi, kBi_a, q_isin, kIs_b, kIsO_a, q_consE, q_nilE, kEs_a, kEs2_a, q_chn, kC2_a, kC3_a, kC4_t, kC4_f, q_noC, q_yesC, kTr_a, kTb_a, kSome_a, kSt_t, kSt_f, q_comp, q_seq, kSeq_a, kSo2_a, q_for, kFor_a, q_rng1, kRng_a, q_enum, kEnum_a, q_fstr, kFs_a, q_consF, q_nilF, kF_a, q_fmt, kFm_a, kFmO_a, q_meth, kMe_a, kMe_b, kMe2_a, q_sl, kSl_a, kSl2_a, kSl3_a, q_rev, kRev_a, q_heard, kHd_ok, kHd_exc, q_par, kPa_a, kPa2_a, q_clr, q_noO, q_yesO, kOi_a, q_retN, q_pass, q_brk, q_cnt, R.bind_ok, R.out_ok, R.bind_exc, R.out_exc, sq_nx, sq_rt, sq_exc, sq_bk, sq_ct, t_bl, nam_d, nam_l, namAll_nil, namAll_cons, List.getElem?_cons_zero, List.getElem?_cons_succ, List.set_cons_zero, List.set_cons_succ, setTg_nm, List.length_cons, List.length_nil, Nat.reduceAdd, Nat.reduceLeDiff, Nat.zero_add, if_true, if_false, Bool.not_true, Bool.not_false, call_cfg, glob_cfg, isT_tuple (Vd_pl hp), hs, b_lent, c_nei, hn2]
    | _ => cases hs
/-! ### what is right, what is not -/
theorem names_cases {c : D} {h : AH} : (∃ cs, c = .tup cs ∧ cs.length ≤ 60 ∧ badNm cs = none ∧ namesR c h = .ok (.d (.tup cs)) h ∧ namesO c = .tup [.str "told", .tup cs]) ∨
    ∃ (e : Str) (w : Int), namesR c h = .exc e (.int w) h ∧ namesO c = .tup [.str e, .int w] ∧ (e = "BadNames" ∨ e = "TooMany") := by
  cases c with
  | tup ds =>
    unfold namesR namesO
    by_cases hn : 60 < ds.length
    · right; exact ⟨"TooMany", ds.length, by simp only [hn, if_true], by simp only [hn, if_true], .inr rfl⟩
    · cases q : badNm ds with
      | some i => right; exact ⟨"BadNames", i, by simp only [hn, if_false, q], by simp only [hn, if_false, q], .inl rfl⟩
      | none => left; exact ⟨ds, rfl, by omega, q, by simp only [hn, if_false, q], by simp only [hn, if_false, q]⟩
  | _ => right; exact ⟨"BadNames", -1, rfl, rfl, .inl rfl⟩
theorem run_cases {m : Nat} {d : D} {h : AH} : (∃ xs, d = .tup xs ∧ xs.length = m ∧ badR xs = none ∧ runR m d h = .ok (.d (.tup xs)) h ∧ runO m d = .non) ∨
    ∃ w : Int, runR m d h = .exc "BadRun" (.int w) h ∧ runO m d = .tup [.str "BadRun", .int w] := by
  cases d with
  | tup ds =>
    unfold runR runO
    by_cases hn : ds.length = m
    · cases q : badR ds with
      | some i => right; exact ⟨i, by simp only [hn, if_true, q], by simp only [hn, if_true, q]⟩
      | none => left; exact ⟨ds, rfl, hn, q, by simp only [hn, if_true, q], by simp only [hn, if_true, q]⟩
    · right; exact ⟨-1, by simp only [hn, if_false], by simp only [hn, if_false]⟩
  | _ => right; exact ⟨-1, rfl, rfl⟩
theorem names_good {cs : List D} (hb : badNm cs = none) : ∀ x ∈ cs, nmB x = true := by
  have := good_before (ds := cs) (i := cs.length) (Nat.le_refl _) (fun j hj => by
    have := List.find?_eq_none.mp hb j (by simp [List.mem_range']; exact hj)
    simpa using this)
  rwa [List.take_length] at this
theorem run_good {xs : List D} (hb : badR xs = none) : ∀ x ∈ xs, ∃ i : Int, x = .int i ∧ 0 ≤ i ∧ i ≤ 10 ^ 20 - 1 := fun x hx => by
  obtain ⟨j, hj, e⟩ := List.mem_iff_getElem.mp hx
  have := List.find?_eq_none.mp hb j (by simp [List.mem_range']; exact hj)
  unfold badRi at this
  rw [List.getElem?_eq_getElem hj, e] at this
  simp only [Bool.not_eq_true, Bool.not_eq_false'] at this
  cases x with
  | int i =>
    unfold inR inB at this
    simp only [Bool.and_eq_true, decide_eq_true_eq] at this
    exact ⟨i, rfl, this.1, this.2⟩
  | _ => cases this
/-! ### lines -/
def num (x : Int) : Str := (toString x : String)
def line (c : Str) (x y : Int) : Str := c ++ " " ++ num x ++ " to " ++ num y
def lineS (cs xs ys : List D) (j : Nat) : Option Str := match cs[j]?, xs[j]?, ys[j]? with
  | some (.str c), some (.int x), some (.int y) => if x == y then none else some (line c x y)
  | _, _, _ => none
def lines (cs xs ys : List D) : List Str := (List.range cs.length).filterMap (lineS cs xs ys)
def slipT (cs xs ys : List D) : Str := Txt.join "\n" (lines cs xs ys)
theorem app_len (a b : Str) : (a ++ b).length = a.length + b.length := by
  show (a.cps ++ b.cps).size = _
  rw [Array.size_append]; rfl
theorem app_ok {a b : Str} (ha : PyData.strOk a = true) (hb : PyData.strOk b = true) : PyData.strOk (a ++ b) = true := by
  show (a.cps ++ b.cps).all _ = true
  rw [Array.all_append, Bool.and_eq_true]; exact ⟨ha, hb⟩
theorem empty_app (a : Str) : Str.empty ++ a = a := by
  show (⟨#[] ++ a.cps⟩ : Str) = a
  simp
theorem of_ok (s : String) : PyData.strOk (Str.ofString s) = true := by
  rw [Str.ofString_eq_toList]
  unfold PyData.strOk
  simp only [List.all_toArray, List.all_map, List.all_eq_true]
  intro c _
  have : c.toNat < 1114112 := by
    have := c.valid
    have e : c.toNat = c.val.toNat := rfl
    rw [e]
    rcases this with h | ⟨_, h⟩
    · exact Nat.lt_trans h (by decide)
    · exact h
  simpa using this
theorem num_ok (x : Int) : PyData.strOk (num x) = true := of_ok _
theorem num_len {x : Int} (h0 : 0 ≤ x) (h1 : x ≤ 10 ^ 20 - 1) : (num x).length ≤ 20 := PyProof.Rows.toString_length_le h0 (by decide) (by omega)
theorem line_ok {c : Str} (hc : PyData.strOk c = true) (x y : Int) : PyData.strOk (line c x y) = true :=
  app_ok (app_ok (app_ok (app_ok hc (of_ok _)) (num_ok _)) (of_ok _)) (num_ok _)
theorem line_len {c : Str} {x y : Int} (hc : c.length ≤ 1000) (hx : 0 ≤ x ∧ x ≤ 10 ^ 20 - 1) (hy : 0 ≤ y ∧ y ≤ 10 ^ 20 - 1) : (line c x y).length ≤ 1045 := by
  have h1 := num_len hx.1 hx.2
  have h2 := num_len hy.1 hy.2
  have e1 : (Str.ofString " ").length = 1 := by decide +kernel
  have e2 : (Str.ofString " to ").length = 4 := by decide +kernel
  unfold line
  simp only [app_len, e1, e2]; omega
theorem fold_ok {g : Array Nat} (hg : g.all (fun c => decide (c < 1114112)) = true) : ∀ (ps : List Str) (acc : Array Nat), acc.all (fun c => decide (c < 1114112)) = true → (∀ t ∈ ps, PyData.strOk t = true) → (ps.foldl (fun acc p => acc ++ g ++ p.cps) acc).all (fun c => decide (c < 1114112)) = true
  | [], acc, ha, _ => ha
  | p :: ps, acc, ha, hp => by
    rw [List.foldl_cons]
    refine fold_ok hg ps _ ?_ fun t ht => hp t (List.mem_cons_of_mem _ ht)
    rw [Array.all_append, Array.all_append, Bool.and_eq_true, Bool.and_eq_true]
    exact ⟨⟨ha, hg⟩, hp p List.mem_cons_self⟩
theorem join_ok {sep : Str} (hs : PyData.strOk sep = true) {ts : List Str} (ht : ∀ t ∈ ts, PyData.strOk t = true) : PyData.strOk (Txt.join sep ts) = true := by
  refine fold_ok hs (ts.drop 1) _ ?_ fun t h => ht t (List.mem_of_mem_drop h)
  cases ts with
  | nil => decide +kernel
  | cons a l => exact ht a List.mem_cons_self
theorem fm_congr {α β : Type} {f g : α → Option β} : ∀ {l : List α}, (∀ x ∈ l, f x = g x) → l.filterMap f = l.filterMap g
  | [], _ => rfl
  | a :: l, h => by
    rw [List.filterMap_cons, List.filterMap_cons, h a List.mem_cons_self, fm_congr fun x hx => h x (List.mem_cons_of_mem _ hx)]
theorem n_adds {x y : Str} {h : AH} (e : x.length + y.length ≤ 10000) : binT .Add (.d (.str x)) (.d (.str y)) h = .ok (.d (.str (x ++ y))) h := by
  show (if x.length + y.length ≤ sizeLine then R.ok (Tm.d (.str (x ++ y))) h else R.err) = _
  rw [if_pos (by rw [sizeLine_eq]; omega)]
theorem log_num {x : Int} (h0 : 0 ≤ x) (h1 : x ≤ 10 ^ 20 - 1) : x.natAbs.log2 < 1920 := by
  by_cases hz : x.natAbs = 0
  · rw [hz]; decide +kernel
  · rw [Nat.log2_lt hz]
    have : x.natAbs < 10 ^ 20 := by omega
    exact Nat.lt_trans this (by decide +kernel)
theorem b_str {x : Int} {h : AH} (h0 : 0 ≤ x) (h1 : x ≤ 10 ^ 20 - 1) : biT "str" [.d (.int x)] h = .ok (.d (.str (num x))) h := by
  have : biT "str" [.d (.int x)] h = biStr [.d (.int x)] h := by kernel_rfl
  rw [this]; unfold biStr
  simp only
  rw [if_pos (log_num h0 h1)]; rfl
theorem f_str {x : Str} (hl : x.length ≤ 10000) : fmtT (.d (.str x)) = some x := by
  unfold fmtT
  simp only
  rw [if_pos (by rw [sizeLine_eq]; omega)]
theorem f_num {x : Int} (h0 : 0 ≤ x) (h1 : x ≤ 10 ^ 20 - 1) : fmtT (.d (.int x)) = some (num x) := by
  unfold fmtT
  simp only
  rw [if_pos (log_num h0 h1)]; rfl
theorem strs_map (ys : List Str) : strs? (ys.map D.str) = some ys := by
  induction ys with
  | nil => rfl
  | cons a l ih => simp [strs?, ih]
theorem m_join {a : Str} {ys : List Str} {h : AH} (e : (ys.map (·.length)).sum + ys.length * a.length ≤ 1000000) : methT "join" (.d (.str a)) [.l (ys.map D.str)] h = .ok (.d (.str (Txt.join a ys))) h := by
  have : methT "join" (.d (.str a)) [.l (ys.map D.str)] h = mJoin (.d (.str a)) (.l (ys.map D.str)) h := by kernel_rfl
  rw [this]; unfold mJoin
  simp only [viewS, viewL, viewM, strs_map]
  rw [if_pos (by omega)]
theorem m_joinr {a : Str} {ys : List Str} {h : AH} {n : Nat} (hn : h[n]? = some (.lst (ys.map D.str))) (e : (ys.map (·.length)).sum + ys.length * a.length ≤ 1000000) : methT "join" (.d (.str a)) [.d (.ref n)] h = .ok (.d (.str (Txt.join a ys))) h := by
  have : methT "join" (.d (.str a)) [.d (.ref n)] h = mJoin (.d (.str a)) (.d (.ref n)) h := by kernel_rfl
  rw [this]; unfold mJoin
  simp only [viewS, viewL, viewM, hn, strs_map]
  rw [if_pos (by omega)]
theorem recv_join {a : Str} {h : AH} : recvOk "join" (.d (.str a)) h = true := by
  unfold recvOk
  simp only; decide +kernel
/-- one name of the right ones, two numbers -/
structure Row (cs xs ys : List D) (j : Nat) (c : Str) (x y : Int) : Prop where
  ec : cs[j]? = some (.str c)
  ex : xs[j]? = some (.int x)
  ey : ys[j]? = some (.int y)
  ok : PyData.strOk c = true
  len : c.length ≤ 12
  bx : 0 ≤ x ∧ x ≤ 10 ^ 20 - 1
  bY : 0 ≤ y ∧ y ≤ 10 ^ 20 - 1
theorem rows_at {cs xs ys : List D} (hp : plDs cs = true) (hc : badNm cs = none) (hx : badR xs = none) (hy : badR ys = none) (lx : xs.length = cs.length) (ly : ys.length = cs.length) {j : Nat} (hj : j < cs.length) : ∃ c x y, Row cs xs ys j c x y := by
  have c1 := names_good hc _ (List.getElem_mem hj)
  obtain ⟨c, ec⟩ := flat_str c1
  obtain ⟨x, ex, bx⟩ := run_good hx _ (List.getElem_mem (show j < xs.length by omega))
  obtain ⟨y, ey, bY⟩ := run_good hy _ (List.getElem_mem (show j < ys.length by omega))
  refine ⟨c, x, y, by rw [List.getElem?_eq_getElem hj, ec], by rw [List.getElem?_eq_getElem (by omega), ex], by rw [List.getElem?_eq_getElem (by omega), ey], ?_, ?_, bx, bY⟩
  · have := plDs_mem hp (List.getElem_mem hj)
    rw [ec] at this
    exact (plD_str this).1
  · rw [ec] at c1
    unfold nmB nameB at c1
    simp only [Bool.and_eq_true, decide_eq_true_eq] at c1
    exact c1.2.1
theorem lines_ok {cs xs ys : List D} (hp : plDs cs = true) (hc : badNm cs = none) (hx : badR xs = none) (hy : badR ys = none) (lx : xs.length = cs.length) (ly : ys.length = cs.length) : ∀ t ∈ lines cs xs ys, PyData.strOk t = true ∧ t.length ≤ 1045 := fun t ht => by
  obtain ⟨j, hj, e⟩ := List.mem_filterMap.mp ht
  obtain ⟨c, x, y, r⟩ := rows_at hp hc hx hy lx ly (List.mem_range.mp hj)
  unfold lineS at e
  simp only [r.ec, r.ex, r.ey] at e
  split at e
  · cases e
  · cases e
    exact ⟨line_ok r.ok _ _, line_len (by have := r.len; omega) r.bx r.bY⟩
theorem lines_sum {ts : List Str} {n : Nat} (h : ∀ t ∈ ts, t.length ≤ 1045) (hn : ts.length ≤ n) : (ts.map (·.length)).sum ≤ 1045 * n := by
  have : ∀ ts : List Str, (∀ t ∈ ts, t.length ≤ 1045) → (ts.map (·.length)).sum ≤ 1045 * ts.length := fun ts => by
    induction ts with
    | nil => intro _; simp
    | cons a l ih =>
      intro h
      have h1 := h a List.mem_cons_self
      have h2 := ih fun t ht => h t (List.mem_cons_of_mem _ ht)
      simp only [List.map_cons, List.sum_cons, List.length_cons]; omega
  have h3 := this ts h
  have : 1045 * ts.length ≤ 1045 * n := Nat.mul_le_mul_left _ hn
  omega
theorem lines_le {cs xs ys : List D} : (lines cs xs ys).length ≤ cs.length := by
  have := List.length_filterMap_le (lineS cs xs ys) (List.range cs.length)
  rw [List.length_range] at this
  exact this
theorem lines_join {cs xs ys : List D} (hl : cs.length ≤ 60) (hp : plDs cs = true) (hc : badNm cs = none) (hx : badR xs = none) (hy : badR ys = none) (lx : xs.length = cs.length) (ly : ys.length = cs.length) : ((lines cs xs ys).map (·.length)).sum + (lines cs xs ys).length * (Str.ofString "\n").length ≤ 1000000 := by
  have h1 := lines_sum (n := 60) (fun t ht => (lines_ok hp hc hx hy lx ly t ht).2) (Nat.le_trans lines_le hl)
  have e1 : (Str.ofString "\n").length = 1 := by decide +kernel
  have h2 : (lines cs xs ys).length ≤ cs.length := lines_le
  rw [e1]; omega
def e_line : E := (.fstr (.cons (.fmt (.var 7)) (.cons (.str " ") (.cons (.fmt (.var 8)) (.cons (.str " to ") (.cons (.fmt (.var 9)) .nil))))))
theorem slip_comp {C : Cfg} {a b c : Option D} {cs xs ys : List D} {h : AH} (hl : cs.length ≤ 60) (hp : plDs cs = true) (hc : badNm cs = none) (hx : badR xs = none) (hy : badR ys = none) (lx : xs.length = cs.length) (ly : ys.length = cs.length) :
    kComp C e_line (.tp [7, 8, 9]) (.yes (.cmp .NotEq (.var 8) (.var 9))) [a, b, c, some (.tup cs), some (.tup xs), some (.tup ys), none, none, none, none] (Src.fix ((cs.zip (xs.zip ys)).map fun p => .tup [p.1, p.2.1, p.2.2])) h = .ok (.l ((lines cs xs ys).map D.str)) h := by
  let g : Nat → D := fun j => .tup [(cs[j]?).getD .non, (xs[j]?).getD .non, (ys[j]?).getD .non]
  have ez : ((cs.zip (xs.zip ys)).map fun p => D.tup [p.1, p.2.1, p.2.2]) = (List.range cs.length).map g := by
    apply List.ext_getElem
    · simp; omega
    · intro j h1 h2
      simp only [List.length_map, List.length_range] at h2
      simp only [List.getElem_map, List.getElem_zip, List.getElem_range, g]
      rw [List.getElem?_eq_getElem h2, List.getElem?_eq_getElem (by omega), List.getElem?_eq_getElem (by omega)]
      rfl
  let f : D → Option D := fun d => match d with
    | .tup [.str c, .int x, .int y] => if x == y then none else some (.str (line c x y))
    | _ => none
  have cf := comp_fix (C := C) (ρ := [a, b, c, some (.tup cs), some (.tup xs), some (.tup ys), none, none, none, none]) (h := h) (elt := e_line) (tg := .tp [7, 8, 9]) (c := .yes (.cmp .NotEq (.var 8) (.var 9))) (f := f) (s := .fix ((List.range cs.length).map g)) ((List.range cs.length).map g) (fun i _ => rfl) rfl rfl (by simp; omega) (fun d hd => by
    obtain ⟨j, hj, rfl⟩ := List.mem_map.mp hd
    obtain ⟨c, x, y, r⟩ := rows_at hp hc hx hy lx ly (List.mem_range.mp hj)
    have eg : g j = .tup [.str c, .int x, .int y] := by
      show D.tup [_, _, _] = _
      rw [r.ec, r.ex, r.ey]; rfl
    rw [eg, kStep_a setTg_tp3]
    have h1 := num_len r.bx.1 r.bx.2
    have h2 := num_len r.bY.1 r.bY.2
    have h3 := r.len
    have e1 : (Str.ofString " ").length = 1 := by decide +kernel
    have e2 : (Str.ofString " to ").length = 4 := by decide +kernel
    have hs := sizeLine_eq
    have q1 : ((Str.empty ++ c).length ≤ sizeLine) = True := eq_true (by rw [empty_app, hs]; omega)
    have q2 : ((c ++ Str.ofString " ").length ≤ sizeLine) = True := eq_true (by simp only [app_len, e1, hs]; omega)
    have q3 : ((c ++ Str.ofString " " ++ num x).length ≤ sizeLine) = True := eq_true (by simp only [app_len, e1, hs]; omega)
    have q4 : ((c ++ Str.ofString " " ++ num x ++ Str.ofString " to ").length ≤ sizeLine) = True := eq_true (by simp only [app_len, e1, e2, hs]; omega)
    have q5 : ((c ++ Str.ofString " " ++ num x ++ Str.ofString " to " ++ num y).length ≤ sizeLine) = True := eq_true (by simp only [app_len, e1, e2, hs]; omega)
    have ff : f (.tup [.str c, .int x, .int y]) = if x == y then none else some (.str (line c x y)) := rfl
    rw [ff]
    cases q : x == y with
    | true => simp -implicitDefEqProofs only [q_cons, q_nil, q_ite, kIte_a, kTw_t, kTw_f, q_set, kSet_a, kSo_a, q_setIx, kX1_a, kX2_a, kX3_a, kXo_a, q_ret, kRet_a, q_ex, kEx_a, q_raise, kRaise_a, q_ife, kIfe_a, kTe_t, kTe_f, q_and, kAnd_a, kAo_t, kAo_f, q_or, kOr_a, kOo_t, kOo_f, q_not, kNot_a, kNo_a, q_var, kVo_a, q_glob, kGo_a, q_int, q_bl, q_non, q_str, q_bin, kBin_a, kBin2_a, q_cmp, kCmp_a, kCmp2_a, q_ix, kIx_a, kIx2_a, q_neg, kNg_a, q_tup, kTup_b, q_lst, kLst_b, q_call, kCall_a, q_bi, kBi_a, q_isin, kIs_b, kIsO_a, q_consE, q_nilE, kEs_a, kEs2_a, q_chn, kC2_a, kC3_a, kC4_t, kC4_f, q_noC, q_yesC, kTr_a, kTb_a, kSome_a, kSt_t, kSt_f, q_comp, q_seq, kSeq_a, kSo2_a, q_for, kFor_a, q_rng1, kRng_a, q_enum, kEnum_a, q_fstr, kFs_a, q_consF, q_nilF, kF_a, q_fmt, kFm_a, kFmO_a, q_meth, kMe_a, kMe_b, kMe2_a, q_sl, kSl_a, kSl2_a, kSl3_a, q_rev, kRev_a, q_heard, kHd_ok, kHd_exc, q_par, kPa_a, kPa2_a, q_clr, q_noO, q_yesO, kOi_a, q_retN, q_pass, q_brk, q_cnt, R.bind_ok, R.out_ok, R.bind_exc, R.out_exc, sq_nx, sq_rt, sq_exc, sq_bk, sq_ct, t_bl, nam_d, nam_l, namAll_nil, namAll_cons, List.getElem?_cons_zero, List.getElem?_cons_succ, List.set_cons_zero, List.set_cons_succ, setTg_nm, List.length_cons, List.length_nil, Nat.reduceAdd, Nat.reduceLeDiff, Nat.zero_add, if_true, if_false, Bool.not_true, Bool.not_false, call_cfg, glob_cfg, c_nei, q]
    | false => simp -implicitDefEqProofs only [q_cons, q_nil, q_ite, kIte_a, kTw_t, kTw_f, q_set, kSet_a, kSo_a, q_setIx, kX1_a, kX2_a, kX3_a, kXo_a, q_ret, kRet_a, q_ex, kEx_a, q_raise, kRaise_a, q_ife, kIfe_a, kTe_t, kTe_f, q_and, kAnd_a, kAo_t, kAo_f, q_or, kOr_a, kOo_t, kOo_f, q_not, kNot_a, kNo_a, q_var, kVo_a, q_glob, kGo_a, q_int, q_bl, q_non, q_str, q_bin, kBin_a, kBin2_a, q_cmp, kCmp_a, kCmp2_a, q_ix, kIx_a, kIx2_a, q_neg, kNg_a, q_tup, kTup_b, q_lst, kLst_b, q_call, kCall_a, q_bi, kBi_a, q_isin, kIs_b, kIsO_a, q_consE, q_nilE, kEs_a, kEs2_a, q_chn, kC2_a, kC3_a, kC4_t, kC4_f, q_noC, q_yesC, kTr_a, kTb_a, kSome_a, kSt_t, kSt_f, q_comp, q_seq, kSeq_a, kSo2_a, q_for, kFor_a, q_rng1, kRng_a, q_enum, kEnum_a, q_fstr, kFs_a, q_consF, q_nilF, kF_a, q_fmt, kFm_a, kFmO_a, q_meth, kMe_a, kMe_b, kMe2_a, q_sl, kSl_a, kSl2_a, kSl3_a, q_rev, kRev_a, q_heard, kHd_ok, kHd_exc, q_par, kPa_a, kPa2_a, q_clr, q_noO, q_yesO, kOi_a, q_retN, q_pass, q_brk, q_cnt, R.bind_ok, R.out_ok, R.bind_exc, R.out_exc, sq_nx, sq_rt, sq_exc, sq_bk, sq_ct, t_bl, nam_d, nam_l, namAll_nil, namAll_cons, List.getElem?_cons_zero, List.getElem?_cons_succ, List.set_cons_zero, List.set_cons_succ, setTg_nm, List.length_cons, List.length_nil, Nat.reduceAdd, Nat.reduceLeDiff, Nat.zero_add, if_true, if_false, Bool.not_true, Bool.not_false, call_cfg, glob_cfg, c_nei, q, e_line, f_str (show c.length ≤ 10000 by omega), f_num r.bx.1 r.bx.2, f_num r.bY.1 r.bY.2, kF_a q1, kF_a q2, kF_a q3, kF_a q4, kF_a q5, empty_app, Bool.false_eq_true, line])
  rw [ez, cf]
  congr 2
  unfold lines
  rw [List.filterMap_map, List.map_filterMap]
  apply fm_congr
  intro j hj
  obtain ⟨c, x, y, r⟩ := rows_at hp hc hx hy lx ly (List.mem_range.mp hj)
  have eg : g j = .tup [.str c, .int x, .int y] := by
    show D.tup [_, _, _] = _
    rw [r.ec, r.ex, r.ey]; rfl
  show f (g j) = _
  rw [eg]
  unfold lineS
  simp only [r.ec, r.ex, r.ey]
  show (if x == y then none else some (D.str (line c x y))) = _
  cases x == y <;> rfl
def e_owed : E := (.bin .Add (.bin .Add (.bin .Add (.bin .Add (.ix (.var 0) (.var 6)) (.str " ")) (.bi "str" (.cons (.ix (.var 1) (.var 6)) .nil))) (.str " to ")) (.bi "str" (.cons (.ix (.var 2) (.var 6)) .nil)))
theorem owed_comp {C : Cfg} {a b c : Option D} {cs xs ys : List D} {h : AH} (hl : cs.length ≤ 60) (hp : plDs cs = true) (hc : badNm cs = none) (hx : badR xs = none) (hy : badR ys = none) (lx : xs.length = cs.length) (ly : ys.length = cs.length) :
    kComp C e_owed (.nm 6) (.yes (.cmp .NotEq (.ix (.var 1) (.var 6)) (.ix (.var 2) (.var 6)))) [some (.tup cs), some (.tup xs), some (.tup ys), a, b, c, none] (rng1S (cs.length : Int)) h = .ok (.l ((lines cs xs ys).map D.str)) h := by
  let f : D → Option D := fun d => match d with
    | .int j => (lineS cs xs ys j.toNat).map D.str
    | _ => none
  have cf := comp_fix (C := C) (ρ := [some (.tup cs), some (.tup xs), some (.tup ys), a, b, c, none]) (h := h) (elt := e_owed) (tg := .nm 6) (c := .yes (.cmp .NotEq (.ix (.var 1) (.var 6)) (.ix (.var 2) (.var 6)))) (f := f) (s := rng1S (cs.length : Int)) ((List.range cs.length).map fun (i : Nat) => D.int (i : Int)) (fun i hi => by
      rw [List.length_map, List.length_range] at hi
      rw [List.getElem?_map, List.getElem?_range hi]
      show some (D.int (0 + (i : Int))) = _
      rw [Int.zero_add]; rfl) (by rw [List.length_map, List.length_range]; exact Int.toNat_natCast _) rfl (by rw [List.length_map, List.length_range]; omega) (fun d hd => by
    obtain ⟨j, hj, rfl⟩ := List.mem_map.mp hd
    obtain ⟨c, x, y, r⟩ := rows_at hp hc hx hy lx ly (List.mem_range.mp hj)
    have h1 := num_len r.bx.1 r.bx.2
    have h2 := num_len r.bY.1 r.bY.2
    have h3 := r.len
    have e1 : (Str.ofString " ").length = 1 := by decide +kernel
    have e2 : (Str.ofString " to ").length = 4 := by decide +kernel
    have ff : f (.int (j : Int)) = if x == y then none else some (.str (line c x y)) := by
      show (lineS cs xs ys (j : Int).toNat).map D.str = _
      rw [Int.toNat_natCast]
      unfold lineS
      simp only [r.ec, r.ex, r.ey]
      cases x == y <;> rfl
    rw [ff, kStep_a setTg_nm]
    have a1 := n_adds (x := c) (y := Str.ofString " ") (h := h) (by omega)
    have a2 := n_adds (x := c ++ Str.ofString " ") (y := num x) (h := h) (by simp only [app_len]; omega)
    have a3 := n_adds (x := c ++ Str.ofString " " ++ num x) (y := Str.ofString " to ") (h := h) (by simp only [app_len]; omega)
    have a4 := n_adds (x := c ++ Str.ofString " " ++ num x ++ Str.ofString " to ") (y := num y) (h := h) (by simp only [app_len]; omega)
    cases q : x == y with
    | true => simp -implicitDefEqProofs only [q_cons, q_nil, q_ite, kIte_a, kTw_t, kTw_f, q_set, kSet_a, kSo_a, q_setIx, kX1_a, kX2_a, kX3_a, kXo_a, q_ret, kRet_a, q_ex, kEx_a, q_raise, kRaise_a, q_ife, kIfe_a, kTe_t, kTe_f, q_and, kAnd_a, kAo_t, kAo_f, q_or, kOr_a, kOo_t, kOo_f, q_not, kNot_a, kNo_a, q_var, kVo_a, q_glob, kGo_a, q_int, q_bl, q_non, q_str, q_bin, kBin_a, kBin2_a, q_cmp, kCmp_a, kCmp2_a, q_ix, kIx_a, kIx2_a, q_neg, kNg_a, q_tup, kTup_b, q_lst, kLst_b, q_call, kCall_a, q_bi, kBi_a, q_isin, kIs_b, kIsO_a, q_consE, q_nilE, kEs_a, kEs2_a, q_chn, kC2_a, kC3_a, kC4_t, kC4_f, q_noC, q_yesC, kTr_a, kTb_a, kSome_a, kSt_t, kSt_f, q_comp, q_seq, kSeq_a, kSo2_a, q_for, kFor_a, q_rng1, kRng_a, q_enum, kEnum_a, q_fstr, kFs_a, q_consF, q_nilF, kF_a, q_fmt, kFm_a, kFmO_a, q_meth, kMe_a, kMe_b, kMe2_a, q_sl, kSl_a, kSl2_a, kSl3_a, q_rev, kRev_a, q_heard, kHd_ok, kHd_exc, q_par, kPa_a, kPa2_a, q_clr, q_noO, q_yesO, kOi_a, q_retN, q_pass, q_brk, q_cnt, R.bind_ok, R.out_ok, R.bind_exc, R.out_exc, sq_nx, sq_rt, sq_exc, sq_bk, sq_ct, t_bl, nam_d, nam_l, namAll_nil, namAll_cons, List.getElem?_cons_zero, List.getElem?_cons_succ, List.set_cons_zero, List.set_cons_succ, setTg_nm, List.length_cons, List.length_nil, Nat.reduceAdd, Nat.reduceLeDiff, Nat.zero_add, if_true, if_false, Bool.not_true, Bool.not_false, call_cfg, glob_cfg, i_tup r.ex, i_tup r.ey, c_nei, q]
    | false => simp -implicitDefEqProofs only [q_cons, q_nil, q_ite, kIte_a, kTw_t, kTw_f, q_set, kSet_a, kSo_a, q_setIx, kX1_a, kX2_a, kX3_a, kXo_a, q_ret, kRet_a, q_ex, kEx_a, q_raise, kRaise_a, q_ife, kIfe_a, kTe_t, kTe_f, q_and, kAnd_a, kAo_t, kAo_f, q_or, kOr_a, kOo_t, kOo_f, q_not, kNot_a, kNo_a, q_var, kVo_a, q_glob, kGo_a, q_int, q_bl, q_non, q_str, q_bin, kBin_a, kBin2_a, q_cmp, kCmp_a, kCmp2_a, q_ix, kIx_a, kIx2_a, q_neg, kNg_a, q_tup, kTup_b, q_lst, kLst_b, q_call, kCall_a, q_bi, kBi_a, q_isin, kIs_b, kIsO_a, q_consE, q_nilE, kEs_a, kEs2_a, q_chn, kC2_a, kC3_a, kC4_t, kC4_f, q_noC, q_yesC, kTr_a, kTb_a, kSome_a, kSt_t, kSt_f, q_comp, q_seq, kSeq_a, kSo2_a, q_for, kFor_a, q_rng1, kRng_a, q_enum, kEnum_a, q_fstr, kFs_a, q_consF, q_nilF, kF_a, q_fmt, kFm_a, kFmO_a, q_meth, kMe_a, kMe_b, kMe2_a, q_sl, kSl_a, kSl2_a, kSl3_a, q_rev, kRev_a, q_heard, kHd_ok, kHd_exc, q_par, kPa_a, kPa2_a, q_clr, q_noO, q_yesO, kOi_a, q_retN, q_pass, q_brk, q_cnt, R.bind_ok, R.out_ok, R.bind_exc, R.out_exc, sq_nx, sq_rt, sq_exc, sq_bk, sq_ct, t_bl, nam_d, nam_l, namAll_nil, namAll_cons, List.getElem?_cons_zero, List.getElem?_cons_succ, List.set_cons_zero, List.set_cons_succ, setTg_nm, List.length_cons, List.length_nil, Nat.reduceAdd, Nat.reduceLeDiff, Nat.zero_add, if_true, if_false, Bool.not_true, Bool.not_false, call_cfg, glob_cfg, i_tup r.ex, i_tup r.ey, i_tup r.ec, c_nei, q, e_owed, b_str r.bx.1 r.bx.2, b_str r.bY.1 r.bY.2, a1, a2, a3, a4, Bool.false_eq_true, line])
  rw [cf]
  congr 2
  unfold lines
  rw [List.filterMap_map, List.map_filterMap]
  apply fm_congr
  intro j hj
  show (lineS cs xs ys (j : Int).toNat).map D.str = _
  rw [Int.toNat_natCast]
end K33

set_option Elab.async false
set_option linter.all false
set_option maxRecDepth 100000
set_option maxHeartbeats 4000000
/-! Pure11: slip tells what is owed. -/
namespace K33
open PySem Mill HeadK
theorem i_t0 {x : D} {l : List D} {h : AH} : ixT (.d (.tup (x :: l))) (.d (.int 0)) h = .ok (.d x) h := i_tup (i := 0) rfl
theorem i_t1 {x y : D} {l : List D} {h : AH} : ixT (.d (.tup (x :: y :: l))) (.d (.int 1)) h = .ok (.d y) h := i_tup (i := 1) rfl
abbrev CS : List Str := ["BadNames", "TooMany", "BadRun"]
theorem lv_exc {e : Str} {w : Int} (he : PyData.strOk e = true) : lv 1 (.tup [.str e, .int w]) := .inr ⟨_, rfl, by simp, fun x hx => by
  rcases List.mem_cons.mp hx with rfl | hx
  · exact he
  · rcases List.mem_cons.mp hx with rfl | hx
    · rfl
    · cases hx⟩
theorem lv_told {s : Str} (he : PyData.strOk s = true) : lv 1 (.tup [.str "told", .str s]) := .inr ⟨_, rfl, by simp, fun x hx => by
  rcases List.mem_cons.mp hx with rfl | hx
  · show PyData.strOk _ = true
    decide +kernel
  · rcases List.mem_cons.mp hx with rfl | hx
    · exact he
    · cases hx⟩
theorem told_ok : PyData.strOk "told" = true := by decide +kernel
theorem c_nmsg {e : Str} (h : AH) (he : e = "BadNames" ∨ e = "TooMany") : cmpR .NotEq (.d (.str e)) (.d (.str "told")) h = .ok (.d (.bl true)) h := by
  rcases he with rfl | rfl
  · rw [c_nes (by decide +kernel) told_ok, show (Str.ofString "BadNames" == Str.ofString "told") = false by decide +kernel]; rfl
  · rw [c_nes (by decide +kernel) told_ok, show (Str.ofString "TooMany" == Str.ofString "told") = false by decide +kernel]; rfl
theorem c_ntold (h : AH) : cmpR .NotEq (.d (.str "told")) (.d (.str "told")) h = .ok (.d (.bl false)) h := by
  rw [c_nes told_ok told_ok]; simp
theorem slip_both {wf k : Nat} {c o t : D} {h : AH} (hc : Va c h) (ho : Va o h) (ht : Va t h) (cl : Cl h) (lc : ∀ ds, c = .tup ds → ds.length ≤ 1000) (lo : ∀ ds, o = .tup ds → ds.length ≤ 1000) (lt : ∀ ds, t = .tup ds → ds.length ≤ 1000) :
    ∃ X : D, lv 1 X ∧ callF Pg wf (k + 4) "_law_slip_owed" [.d c, .d o, .d t] h = .ok (.d X) h ∧ kHd CS (callF Pg wf (k + 4) "slip" [.d c, .d o, .d t] h) = .ok (.d X) h := by
  have MN : callF Pg wf (k + 3) "made_names" [.d c] h = namesR c h := made_names_ok hc cl
  have NO : callF Pg wf (k + 3) "_law_names_owed" [.d c] h = .ok (.d (namesO c)) h := names_owed_ok hc lc
  have S1 : ∀ m : Nat, callF Pg wf (k + 3) "spelt_run" [.d (.int m), .d o] h = runR m o h := fun m => spelt_ok ho cl lo
  have S2 : ∀ m : Nat, callF Pg wf (k + 3) "spelt_run" [.d (.int m), .d t] h = runR m t h := fun m => spelt_ok ht cl lt
  have R1 : ∀ m : Nat, callF Pg wf (k + 3) "_law_run_owed" [.d (.int m), .d o] h = .ok (.d (runO m o)) h := fun m => run_owed_ok ho cl lo
  have R2 : ∀ m : Nat, callF Pg wf (k + 3) "_law_run_owed" [.d (.int m), .d t] h = .ok (.d (runO m t)) h := fun m => run_owed_ok ht cl lt
  rcases names_cases (c := c) (h := h) with ⟨cs, rfl, l60, hb, n1, n2⟩ | ⟨e, w, n1, n2, he⟩
  · have hp := hc.pl_of (by intro n z; cases z)
    have hpd : plDs cs = true := by unfold plD at hp; exact hp
    rcases run_cases (m := cs.length) (d := o) (h := h) with ⟨xs, rfl, lx, bx, r1, r2⟩ | ⟨w, r1, r2⟩
    · rcases run_cases (m := cs.length) (d := t) (h := h) with ⟨ys, rfl, ly, bY, r3, r4⟩ | ⟨w, r3, r4⟩
      · have lines2 := lines_ok hpd hb bx bY lx ly
        have lj := lines_join l60 hpd hb bx bY lx ly
        have sk : PyData.strOk (slipT cs xs ys) = true := join_ok (by decide +kernel) fun t ht => (lines2 t ht).1
        refine ⟨_, lv_told sk, ?_, ?_⟩
        · refine call_cut (ds := [.tup cs, .tup xs, .tup ys]) (h1 := h) (e := [.lst ((lines cs xs ys).map D.str)]) fn_law_slip_owed rfl ?_ rfl cl (by simp [below, belows])
          show evSs (cfg Pg wf (k + 3)) wf b_law_slip_owed [some (.tup cs), some (.tup xs), some (.tup ys), none, none, none, none] h = _
          have oc := owed_comp (C := cfg Pg wf (k + 3)) (a := some (.tup [.str "told", .tup cs])) (b := some (.tup ys)) (c := none) (h := h) l60 hpd hb bx bY lx ly
          simp only [e_owed] at oc
          simp -implicitDefEqProofs only [b_law_slip_owed, q_cons, q_nil, q_ite, kIte_a, kTw_t, kTw_f, q_set, kSet_a, kSo_a, q_setIx, kX1_a, kX2_a, kX3_a, kXo_a, q_ret, kRet_a, q_ex, kEx_a, q_raise, kRaise_a, q_ife, kIfe_a, kTe_t, kTe_f, q_and, kAnd_a, kAo_t, kAo_f, q_or, kOr_a, kOo_t, kOo_f, q_not, kNot_a, kNo_a, q_var, kVo_a, q_glob, kGo_a, q_int, q_bl, q_non, q_str, q_bin, kBin_a, kBin2_a, q_cmp, kCmp_a, kCmp2_a, q_ix, kIx_a, kIx2_a, q_neg, kNg_a, q_tup, kTup_b, q_lst, kLst_b, q_call, kCall_a, q_bi, kBi_a, q_isin, kIs_b, kIsO_a, q_consE, q_nilE, kEs_a, kEs2_a, q_chn, kC2_a, kC3_a, kC4_t, kC4_f, q_noC, q_yesC, kTr_a, kTb_a, kSome_a, kSt_t, kSt_f, q_comp, q_seq, kSeq_a, kSo2_a, q_for, kFor_a, q_rng1, kRng_a, q_enum, kEnum_a, q_fstr, kFs_a, q_consF, q_nilF, kF_a, q_fmt, kFm_a, kFmO_a, q_meth, kMe_a, kMe_b, kMe2_a, q_sl, kSl_a, kSl2_a, kSl3_a, q_rev, kRev_a, q_heard, kHd_ok, kHd_exc, q_par, kPa_a, kPa2_a, q_clr, q_noO, q_yesO, kOi_a, q_retN, q_pass, q_brk, q_cnt, R.bind_ok, R.out_ok, R.bind_exc, R.out_exc, sq_nx, sq_rt, sq_exc, sq_bk, sq_ct, t_bl, nam_d, nam_l, namAll_nil, namAll_cons, List.getElem?_cons_zero, List.getElem?_cons_succ, List.set_cons_zero, List.set_cons_succ, setTg_nm, List.length_cons, List.length_nil, Nat.reduceAdd, Nat.reduceLeDiff, Nat.zero_add, if_true, if_false, Bool.not_true, Bool.not_false, call_cfg, glob_cfg, fl_succ, kFg_a, kFl_nx, kFl_ct, kFl_bk, kFl_rt, kFl_exc, fl_zero, kBody_e, kBo_a, fix_len, fix_get, fix_fin, src_tu, src_ll, NO, n2, i_t0, c_ntold, b_lent, R1, r2, R2, r4, c_isnnon, isNone, kRng_a (rng_ok (n := cs.length) (by omega)), oc, recv_join, m_joinr hat0 lj, slipT]
        · have : callF Pg wf (k + 4) "slip" [.d (.tup cs), .d (.tup xs), .d (.tup ys)] h = .ok (.d (.str (slipT cs xs ys))) h := by
            refine call_rt (ds := [.tup cs, .tup xs, .tup ys]) fn_slip rfl ?_ rfl
            show evSs (cfg Pg wf (k + 3)) wf b_slip [some (.tup cs), some (.tup xs), some (.tup ys), none, none, none, none, none, none, none] h = _
            have oc := slip_comp (C := cfg Pg wf (k + 3)) (a := some (.tup cs)) (b := some (.tup xs)) (c := some (.tup ys)) (h := h) l60 hpd hb bx bY lx ly
            simp only [e_line] at oc
            simp -implicitDefEqProofs only [b_slip, q_cons, q_nil, q_ite, kIte_a, kTw_t, kTw_f, q_set, kSet_a, kSo_a, q_setIx, kX1_a, kX2_a, kX3_a, kXo_a, q_ret, kRet_a, q_ex, kEx_a, q_raise, kRaise_a, q_ife, kIfe_a, kTe_t, kTe_f, q_and, kAnd_a, kAo_t, kAo_f, q_or, kOr_a, kOo_t, kOo_f, q_not, kNot_a, kNo_a, q_var, kVo_a, q_glob, kGo_a, q_int, q_bl, q_non, q_str, q_bin, kBin_a, kBin2_a, q_cmp, kCmp_a, kCmp2_a, q_ix, kIx_a, kIx2_a, q_neg, kNg_a, q_tup, kTup_b, q_lst, kLst_b, q_call, kCall_a, q_bi, kBi_a, q_isin, kIs_b, kIsO_a, q_consE, q_nilE, kEs_a, kEs2_a, q_chn, kC2_a, kC3_a, kC4_t, kC4_f, q_noC, q_yesC, kTr_a, kTb_a, kSome_a, kSt_t, kSt_f, q_comp, q_seq, kSeq_a, kSo2_a, q_for, kFor_a, q_rng1, kRng_a, q_enum, kEnum_a, q_fstr, kFs_a, q_consF, q_nilF, kF_a, q_fmt, kFm_a, kFmO_a, q_meth, kMe_a, kMe_b, kMe2_a, q_sl, kSl_a, kSl2_a, kSl3_a, q_rev, kRev_a, q_heard, kHd_ok, kHd_exc, q_par, kPa_a, kPa2_a, q_clr, q_noO, q_yesO, kOi_a, q_retN, q_pass, q_brk, q_cnt, R.bind_ok, R.out_ok, R.bind_exc, R.out_exc, sq_nx, sq_rt, sq_exc, sq_bk, sq_ct, t_bl, nam_d, nam_l, namAll_nil, namAll_cons, List.getElem?_cons_zero, List.getElem?_cons_succ, List.set_cons_zero, List.set_cons_succ, setTg_nm, List.length_cons, List.length_nil, Nat.reduceAdd, Nat.reduceLeDiff, Nat.zero_add, if_true, if_false, Bool.not_true, Bool.not_false, call_cfg, glob_cfg, MN, n1, b_lent, S1, S2, r1, r3, q_zip3, kZ2_a, kZ3_a, kZ4_a (show cs.length = xs.length ∧ xs.length = ys.length from ⟨lx.symm, by omega⟩), oc, recv_join, m_join lj, slipT]
          rw [this]; rfl
      · refine ⟨_, lv_exc (e := "BadRun") (w := w) (by decide +kernel), ?_, ?_⟩
        · refine call_rt (ds := [.tup cs, .tup xs, t]) fn_law_slip_owed rfl ?_ rfl
          show evSs (cfg Pg wf (k + 3)) wf b_law_slip_owed [some (.tup cs), some (.tup xs), some t, none, none, none, none] h = _
          simp -implicitDefEqProofs only [b_law_slip_owed, q_cons, q_nil, q_ite, kIte_a, kTw_t, kTw_f, q_set, kSet_a, kSo_a, q_setIx, kX1_a, kX2_a, kX3_a, kXo_a, q_ret, kRet_a, q_ex, kEx_a, q_raise, kRaise_a, q_ife, kIfe_a, kTe_t, kTe_f, q_and, kAnd_a, kAo_t, kAo_f, q_or, kOr_a, kOo_t, kOo_f, q_not, kNot_a, kNo_a, q_var, kVo_a, q_glob, kGo_a, q_int, q_bl, q_non, q_str, q_bin, kBin_a, kBin2_a, q_cmp, kCmp_a, kCmp2_a, q_ix, kIx_a, kIx2_a, q_neg, kNg_a, q_tup, kTup_b, q_lst, kLst_b, q_call, kCall_a, q_bi, kBi_a, q_isin, kIs_b, kIsO_a, q_consE, q_nilE, kEs_a, kEs2_a, q_chn, kC2_a, kC3_a, kC4_t, kC4_f, q_noC, q_yesC, kTr_a, kTb_a, kSome_a, kSt_t, kSt_f, q_comp, q_seq, kSeq_a, kSo2_a, q_for, kFor_a, q_rng1, kRng_a, q_enum, kEnum_a, q_fstr, kFs_a, q_consF, q_nilF, kF_a, q_fmt, kFm_a, kFmO_a, q_meth, kMe_a, kMe_b, kMe2_a, q_sl, kSl_a, kSl2_a, kSl3_a, q_rev, kRev_a, q_heard, kHd_ok, kHd_exc, q_par, kPa_a, kPa2_a, q_clr, q_noO, q_yesO, kOi_a, q_retN, q_pass, q_brk, q_cnt, R.bind_ok, R.out_ok, R.bind_exc, R.out_exc, sq_nx, sq_rt, sq_exc, sq_bk, sq_ct, t_bl, nam_d, nam_l, namAll_nil, namAll_cons, List.getElem?_cons_zero, List.getElem?_cons_succ, List.set_cons_zero, List.set_cons_succ, setTg_nm, List.length_cons, List.length_nil, Nat.reduceAdd, Nat.reduceLeDiff, Nat.zero_add, if_true, if_false, Bool.not_true, Bool.not_false, call_cfg, glob_cfg, fl_succ, kFg_a, kFl_nx, kFl_ct, kFl_bk, kFl_rt, kFl_exc, fl_zero, kBody_e, kBo_a, fix_len, fix_get, fix_fin, src_tu, src_ll, NO, n2, i_t0, c_ntold, b_lent, R1, r2, R2, r4, c_isnnon, isNone]
        · have : callF Pg wf (k + 4) "slip" [.d (.tup cs), .d (.tup xs), .d t] h = .exc "BadRun" (.int w) h := by
            refine call_exc (ds := [.tup cs, .tup xs, t]) (e := []) fn_slip rfl ?_ cl (by simp [below])
            show evSs (cfg Pg wf (k + 3)) wf b_slip [some (.tup cs), some (.tup xs), some t, none, none, none, none, none, none, none] h = _
            simp -implicitDefEqProofs only [b_slip, q_cons, q_nil, q_ite, kIte_a, kTw_t, kTw_f, q_set, kSet_a, kSo_a, q_setIx, kX1_a, kX2_a, kX3_a, kXo_a, q_ret, kRet_a, q_ex, kEx_a, q_raise, kRaise_a, q_ife, kIfe_a, kTe_t, kTe_f, q_and, kAnd_a, kAo_t, kAo_f, q_or, kOr_a, kOo_t, kOo_f, q_not, kNot_a, kNo_a, q_var, kVo_a, q_glob, kGo_a, q_int, q_bl, q_non, q_str, q_bin, kBin_a, kBin2_a, q_cmp, kCmp_a, kCmp2_a, q_ix, kIx_a, kIx2_a, q_neg, kNg_a, q_tup, kTup_b, q_lst, kLst_b, q_call, kCall_a, q_bi, kBi_a, q_isin, kIs_b, kIsO_a, q_consE, q_nilE, kEs_a, kEs2_a, q_chn, kC2_a, kC3_a, kC4_t, kC4_f, q_noC, q_yesC, kTr_a, kTb_a, kSome_a, kSt_t, kSt_f, q_comp, q_seq, kSeq_a, kSo2_a, q_for, kFor_a, q_rng1, kRng_a, q_enum, kEnum_a, q_fstr, kFs_a, q_consF, q_nilF, kF_a, q_fmt, kFm_a, kFmO_a, q_meth, kMe_a, kMe_b, kMe2_a, q_sl, kSl_a, kSl2_a, kSl3_a, q_rev, kRev_a, q_heard, kHd_ok, kHd_exc, q_par, kPa_a, kPa2_a, q_clr, q_noO, q_yesO, kOi_a, q_retN, q_pass, q_brk, q_cnt, R.bind_ok, R.out_ok, R.bind_exc, R.out_exc, sq_nx, sq_rt, sq_exc, sq_bk, sq_ct, t_bl, nam_d, nam_l, namAll_nil, namAll_cons, List.getElem?_cons_zero, List.getElem?_cons_succ, List.set_cons_zero, List.set_cons_succ, setTg_nm, List.length_cons, List.length_nil, Nat.reduceAdd, Nat.reduceLeDiff, Nat.zero_add, if_true, if_false, Bool.not_true, Bool.not_false, call_cfg, glob_cfg, MN, n1, b_lent, S1, S2, r1, r3, List.append_nil]
          rw [this]
          exact kHd_exc (eq_true (by decide +kernel))
    · refine ⟨_, lv_exc (e := "BadRun") (w := w) (by decide +kernel), ?_, ?_⟩
      · refine call_rt (ds := [.tup cs, o, t]) fn_law_slip_owed rfl ?_ rfl
        show evSs (cfg Pg wf (k + 3)) wf b_law_slip_owed [some (.tup cs), some o, some t, none, none, none, none] h = _
        simp -implicitDefEqProofs only [b_law_slip_owed, q_cons, q_nil, q_ite, kIte_a, kTw_t, kTw_f, q_set, kSet_a, kSo_a, q_setIx, kX1_a, kX2_a, kX3_a, kXo_a, q_ret, kRet_a, q_ex, kEx_a, q_raise, kRaise_a, q_ife, kIfe_a, kTe_t, kTe_f, q_and, kAnd_a, kAo_t, kAo_f, q_or, kOr_a, kOo_t, kOo_f, q_not, kNot_a, kNo_a, q_var, kVo_a, q_glob, kGo_a, q_int, q_bl, q_non, q_str, q_bin, kBin_a, kBin2_a, q_cmp, kCmp_a, kCmp2_a, q_ix, kIx_a, kIx2_a, q_neg, kNg_a, q_tup, kTup_b, q_lst, kLst_b, q_call, kCall_a, q_bi, kBi_a, q_isin, kIs_b, kIsO_a, q_consE, q_nilE, kEs_a, kEs2_a, q_chn, kC2_a, kC3_a, kC4_t, kC4_f, q_noC, q_yesC, kTr_a, kTb_a, kSome_a, kSt_t, kSt_f, q_comp, q_seq, kSeq_a, kSo2_a, q_for, kFor_a, q_rng1, kRng_a, q_enum, kEnum_a, q_fstr, kFs_a, q_consF, q_nilF, kF_a, q_fmt, kFm_a, kFmO_a, q_meth, kMe_a, kMe_b, kMe2_a, q_sl, kSl_a, kSl2_a, kSl3_a, q_rev, kRev_a, q_heard, kHd_ok, kHd_exc, q_par, kPa_a, kPa2_a, q_clr, q_noO, q_yesO, kOi_a, q_retN, q_pass, q_brk, q_cnt, R.bind_ok, R.out_ok, R.bind_exc, R.out_exc, sq_nx, sq_rt, sq_exc, sq_bk, sq_ct, t_bl, nam_d, nam_l, namAll_nil, namAll_cons, List.getElem?_cons_zero, List.getElem?_cons_succ, List.set_cons_zero, List.set_cons_succ, setTg_nm, List.length_cons, List.length_nil, Nat.reduceAdd, Nat.reduceLeDiff, Nat.zero_add, if_true, if_false, Bool.not_true, Bool.not_false, call_cfg, glob_cfg, fl_succ, kFg_a, kFl_nx, kFl_ct, kFl_bk, kFl_rt, kFl_exc, fl_zero, kBody_e, kBo_a, fix_len, fix_get, fix_fin, src_tu, src_ll, NO, n2, i_t0, c_ntold, b_lent, R1, r2, c_isnnon, isNone]
      · have : callF Pg wf (k + 4) "slip" [.d (.tup cs), .d o, .d t] h = .exc "BadRun" (.int w) h := by
          refine call_exc (ds := [.tup cs, o, t]) (e := []) fn_slip rfl ?_ cl (by simp [below])
          show evSs (cfg Pg wf (k + 3)) wf b_slip [some (.tup cs), some o, some t, none, none, none, none, none, none, none] h = _
          simp -implicitDefEqProofs only [b_slip, q_cons, q_nil, q_ite, kIte_a, kTw_t, kTw_f, q_set, kSet_a, kSo_a, q_setIx, kX1_a, kX2_a, kX3_a, kXo_a, q_ret, kRet_a, q_ex, kEx_a, q_raise, kRaise_a, q_ife, kIfe_a, kTe_t, kTe_f, q_and, kAnd_a, kAo_t, kAo_f, q_or, kOr_a, kOo_t, kOo_f, q_not, kNot_a, kNo_a, q_var, kVo_a, q_glob, kGo_a, q_int, q_bl, q_non, q_str, q_bin, kBin_a, kBin2_a, q_cmp, kCmp_a, kCmp2_a, q_ix, kIx_a, kIx2_a, q_neg, kNg_a, q_tup, kTup_b, q_lst, kLst_b, q_call, kCall_a, q_bi, kBi_a, q_isin, kIs_b, kIsO_a, q_consE, q_nilE, kEs_a, kEs2_a, q_chn, kC2_a, kC3_a, kC4_t, kC4_f, q_noC, q_yesC, kTr_a, kTb_a, kSome_a, kSt_t, kSt_f, q_comp, q_seq, kSeq_a, kSo2_a, q_for, kFor_a, q_rng1, kRng_a, q_enum, kEnum_a, q_fstr, kFs_a, q_consF, q_nilF, kF_a, q_fmt, kFm_a, kFmO_a, q_meth, kMe_a, kMe_b, kMe2_a, q_sl, kSl_a, kSl2_a, kSl3_a, q_rev, kRev_a, q_heard, kHd_ok, kHd_exc, q_par, kPa_a, kPa2_a, q_clr, q_noO, q_yesO, kOi_a, q_retN, q_pass, q_brk, q_cnt, R.bind_ok, R.out_ok, R.bind_exc, R.out_exc, sq_nx, sq_rt, sq_exc, sq_bk, sq_ct, t_bl, nam_d, nam_l, namAll_nil, namAll_cons, List.getElem?_cons_zero, List.getElem?_cons_succ, List.set_cons_zero, List.set_cons_succ, setTg_nm, List.length_cons, List.length_nil, Nat.reduceAdd, Nat.reduceLeDiff, Nat.zero_add, if_true, if_false, Bool.not_true, Bool.not_false, call_cfg, glob_cfg, MN, n1, b_lent, S1, r1, List.append_nil]
        rw [this]
        exact kHd_exc (eq_true (by decide +kernel))
  · refine ⟨_, lv_exc (e := e) (w := w) (by rcases he with rfl | rfl <;> decide +kernel), ?_, ?_⟩
    · refine call_rt (ds := [c, o, t]) fn_law_slip_owed rfl ?_ rfl
      show evSs (cfg Pg wf (k + 3)) wf b_law_slip_owed [some c, some o, some t, none, none, none, none] h = _
      simp -implicitDefEqProofs only [b_law_slip_owed, q_cons, q_nil, q_ite, kIte_a, kTw_t, kTw_f, q_set, kSet_a, kSo_a, q_setIx, kX1_a, kX2_a, kX3_a, kXo_a, q_ret, kRet_a, q_ex, kEx_a, q_raise, kRaise_a, q_ife, kIfe_a, kTe_t, kTe_f, q_and, kAnd_a, kAo_t, kAo_f, q_or, kOr_a, kOo_t, kOo_f, q_not, kNot_a, kNo_a, q_var, kVo_a, q_glob, kGo_a, q_int, q_bl, q_non, q_str, q_bin, kBin_a, kBin2_a, q_cmp, kCmp_a, kCmp2_a, q_ix, kIx_a, kIx2_a, q_neg, kNg_a, q_tup, kTup_b, q_lst, kLst_b, q_call, kCall_a, q_bi, kBi_a, q_isin, kIs_b, kIsO_a, q_consE, q_nilE, kEs_a, kEs2_a, q_chn, kC2_a, kC3_a, kC4_t, kC4_f, q_noC, q_yesC, kTr_a, kTb_a, kSome_a, kSt_t, kSt_f, q_comp, q_seq, kSeq_a, kSo2_a, q_for, kFor_a, q_rng1, kRng_a, q_enum, kEnum_a, q_fstr, kFs_a, q_consF, q_nilF, kF_a, q_fmt, kFm_a, kFmO_a, q_meth, kMe_a, kMe_b, kMe2_a, q_sl, kSl_a, kSl2_a, kSl3_a, q_rev, kRev_a, q_heard, kHd_ok, kHd_exc, q_par, kPa_a, kPa2_a, q_clr, q_noO, q_yesO, kOi_a, q_retN, q_pass, q_brk, q_cnt, R.bind_ok, R.out_ok, R.bind_exc, R.out_exc, sq_nx, sq_rt, sq_exc, sq_bk, sq_ct, t_bl, nam_d, nam_l, namAll_nil, namAll_cons, List.getElem?_cons_zero, List.getElem?_cons_succ, List.set_cons_zero, List.set_cons_succ, setTg_nm, List.length_cons, List.length_nil, Nat.reduceAdd, Nat.reduceLeDiff, Nat.zero_add, if_true, if_false, Bool.not_true, Bool.not_false, call_cfg, glob_cfg, NO, n2, i_t0, c_nmsg h he]
    · have : callF Pg wf (k + 4) "slip" [.d c, .d o, .d t] h = .exc e (.int w) h := by
        refine call_exc (ds := [c, o, t]) (e := []) fn_slip rfl ?_ cl (by simp [below])
        show evSs (cfg Pg wf (k + 3)) wf b_slip [some c, some o, some t, none, none, none, none, none, none, none] h = _
        simp -implicitDefEqProofs only [b_slip, q_cons, q_nil, q_ite, kIte_a, kTw_t, kTw_f, q_set, kSet_a, kSo_a, q_setIx, kX1_a, kX2_a, kX3_a, kXo_a, q_ret, kRet_a, q_ex, kEx_a, q_raise, kRaise_a, q_ife, kIfe_a, kTe_t, kTe_f, q_and, kAnd_a, kAo_t, kAo_f, q_or, kOr_a, kOo_t, kOo_f, q_not, kNot_a, kNo_a, q_var, kVo_a, q_glob, kGo_a, q_int, q_bl, q_non, q_str, q_bin, kBin_a, kBin2_a, q_cmp, kCmp_a, kCmp2_a, q_ix, kIx_a, kIx2_a, q_neg, kNg_a, q_tup, kTup_b, q_lst, kLst_b, q_call, kCall_a, q_bi, kBi_a, q_isin, kIs_b, kIsO_a, q_consE, q_nilE, kEs_a, kEs2_a, q_chn, kC2_a, kC3_a, kC4_t, kC4_f, q_noC, q_yesC, kTr_a, kTb_a, kSome_a, kSt_t, kSt_f, q_comp, q_seq, kSeq_a, kSo2_a, q_for, kFor_a, q_rng1, kRng_a, q_enum, kEnum_a, q_fstr, kFs_a, q_consF, q_nilF, kF_a, q_fmt, kFm_a, kFmO_a, q_meth, kMe_a, kMe_b, kMe2_a, q_sl, kSl_a, kSl2_a, kSl3_a, q_rev, kRev_a, q_heard, kHd_ok, kHd_exc, q_par, kPa_a, kPa2_a, q_clr, q_noO, q_yesO, kOi_a, q_retN, q_pass, q_brk, q_cnt, R.bind_ok, R.out_ok, R.bind_exc, R.out_exc, sq_nx, sq_rt, sq_exc, sq_bk, sq_ct, t_bl, nam_d, nam_l, namAll_nil, namAll_cons, List.getElem?_cons_zero, List.getElem?_cons_succ, List.set_cons_zero, List.set_cons_succ, setTg_nm, List.length_cons, List.length_nil, Nat.reduceAdd, Nat.reduceLeDiff, Nat.zero_add, if_true, if_false, Bool.not_true, Bool.not_false, call_cfg, glob_cfg, MN, n1, List.append_nil]
      rw [this]
      exact kHd_exc (eq_true (by rcases he with rfl | rfl <;> decide +kernel))
theorem slip_right_ok {wf k : Nat} {c o t : D} {h : AH} (hc : Va c h) (ho : Va o h) (ht : Va t h) (cl : Cl h) (lc : ∀ ds, c = .tup ds → ds.length ≤ 1000) (lo : ∀ ds, o = .tup ds → ds.length ≤ 1000) (lt : ∀ ds, t = .tup ds → ds.length ≤ 1000) :
    callF Pg wf (k + 5) "_law_slip_right" [.d c, .d o, .d t] h = .ok (.d (.bl true)) h := by
  obtain ⟨X, l1, e1, e2⟩ := slip_both (wf := wf) (k := k) hc ho ht cl lc lo lt
  refine call_rt (ds := [c, o, t]) fn_law_slip_right rfl ?_ rfl
  show evSs (cfg Pg wf (k + 4)) wf b_law_slip_right [some c, some o, some t, none] h = _
  have sm : callF Pg wf (k + 4) "_law_same" [.d X, .d X] h = .ok (.d (.bl true)) h := same_ok (wf := wf) (h := h) 1 (k + 1) l1
  simp -implicitDefEqProofs only [b_law_slip_right, q_cons, q_nil, q_ite, kIte_a, kTw_t, kTw_f, q_set, kSet_a, kSo_a, q_setIx, kX1_a, kX2_a, kX3_a, kXo_a, q_ret, kRet_a, q_ex, kEx_a, q_raise, kRaise_a, q_ife, kIfe_a, kTe_t, kTe_f, q_and, kAnd_a, kAo_t, kAo_f, q_or, kOr_a, kOo_t, kOo_f, q_not, kNot_a, kNo_a, q_var, kVo_a, q_glob, kGo_a, q_int, q_bl, q_non, q_str, q_bin, kBin_a, kBin2_a, q_cmp, kCmp_a, kCmp2_a, q_ix, kIx_a, kIx2_a, q_neg, kNg_a, q_tup, kTup_b, q_lst, kLst_b, q_call, kCall_a, q_bi, kBi_a, q_isin, kIs_b, kIsO_a, q_consE, q_nilE, kEs_a, kEs2_a, q_chn, kC2_a, kC3_a, kC4_t, kC4_f, q_noC, q_yesC, kTr_a, kTb_a, kSome_a, kSt_t, kSt_f, q_comp, q_seq, kSeq_a, kSo2_a, q_for, kFor_a, q_rng1, kRng_a, q_enum, kEnum_a, q_fstr, kFs_a, q_consF, q_nilF, kF_a, q_fmt, kFm_a, kFmO_a, q_meth, kMe_a, kMe_b, kMe2_a, q_sl, kSl_a, kSl2_a, kSl3_a, q_rev, kRev_a, q_heard, kHd_ok, kHd_exc, q_par, kPa_a, kPa2_a, q_clr, q_noO, q_yesO, kOi_a, q_retN, q_pass, q_brk, q_cnt, R.bind_ok, R.out_ok, R.bind_exc, R.out_exc, sq_nx, sq_rt, sq_exc, sq_bk, sq_ct, t_bl, nam_d, nam_l, namAll_nil, namAll_cons, List.getElem?_cons_zero, List.getElem?_cons_succ, List.set_cons_zero, List.set_cons_succ, setTg_nm, List.length_cons, List.length_nil, Nat.reduceAdd, Nat.reduceLeDiff, Nat.zero_add, if_true, if_false, Bool.not_true, Bool.not_false, call_cfg, glob_cfg, e1, q_heard, e2, sm]
end K33

set_option Elab.async false
set_option linter.all false
set_option maxRecDepth 100000
set_option maxHeartbeats 4000000
/-! Pure12: the pool; what a draw leaves. -/
namespace K33
open PySem Mill HeadK
theorem Drawn.len {h h1 : AH} {j : Nat} (d : Drawn h h1 j) : h1.length = h.length := by
  obtain ⟨_, a, b, rfl⟩ := d; simp
theorem Drawn.trans {h h1 h2 : AH} {j : Nat} (d : Drawn h h1 j) (e : Drawn h1 h2 j) : Drawn h h2 j := by
  obtain ⟨_, a, b, rfl⟩ := d
  obtain ⟨J, a', b', rfl⟩ := e
  exact ⟨J, a', b', by rw [List.set_set]⟩
theorem Drawn.refl {h : AH} {j : Nat} (J : Jar h j) : Drawn h h j := by
  refine ⟨J, ?_⟩
  obtain ⟨a, b, e, _⟩ := J
  refine ⟨a, b, ?_⟩
  obtain ⟨hj, e⟩ := List.getElem?_eq_some_iff.mp e
  rw [← e, List.set_getElem_self]
theorem Drawn.cl {h h1 : AH} {j : Nat} (d : Drawn h h1 j) (c : Cl h) : Cl h1 := by
  obtain ⟨_, a, b, rfl⟩ := d
  exact c.set (by simp [belows, below])
theorem Drawn.at {h h1 : AH} {j n : Nat} (d : Drawn h h1 j) (hn : n ≠ j) : h1[n]? = h[n]? := by
  obtain ⟨_, a, b, rfl⟩ := d
  rw [List.getElem?_set_ne (by omega)]
/-- a draw amid what stands behind -/
theorem Drawn.push {h e h1 : AH} {j : Nat} (d : Drawn (h ++ e) h1 j) (hj : j < h.length) : ∃ h2, h1 = h2 ++ e ∧ Drawn h h2 j := by
  obtain ⟨J, a, b, rfl⟩ := d
  rw [List.set_append_left _ _ hj] at J ⊢
  refine ⟨_, rfl, ?_, a, b, rfl⟩
  obtain ⟨a2, b2, e1, e2⟩ := J
  rw [List.getElem?_append_left (by simpa using hj)] at e1
  exact ⟨a2, b2, e1, e2⟩
/-! ### the pool -/
/-- the script -/
def Scr (s : D) (zs : List Int) (h : AH) : Prop := s = .fro (zs.map D.int) ∨ ∃ n, s = .ref n ∧ h[n]? = some (.lst (zs.map D.int))
theorem Scr.view {s : D} {zs : List Int} {h : AH} (c : Scr s zs h) : viewS (.d s) h = some (zs.map D.int) := by
  rcases c with rfl | ⟨n, rfl, e⟩
  · rfl
  · exact viewS_ref e
theorem Scr.str {s : D} {zs : List Int} {h : AH} (c : Scr s zs h) (x : Str) : Tm.d s ≠ .d (.str x) := by
  rcases c with rfl | ⟨n, rfl, e⟩ <;> intro z <;> cases z
theorem Scr.ix {s : D} {zs : List Int} {h : AH} {i : Nat} {z : Int} (c : Scr s zs h) (e : zs[i]? = some z) : ixT (.d s) (.d (.int (i : Int))) h = .ok (.d (.int z)) h := by
  have e2 : (zs.map D.int)[i]? = some (.int z) := by rw [List.getElem?_map, e]; rfl
  have a := L2.atI_nat e2
  have v := c.view
  unfold ixT
  rcases c with rfl | ⟨n, rfl, _⟩ <;> simp only [v, a]
theorem Scr.ne {s : D} {zs : List Int} {h : AH} (c : Scr s zs h) : cmpR .NotEq (.d s) (.l []) h = .ok (.d (.bl (!(zs.map D.int).isEmpty))) h := by
  have fl : ∀ d ∈ zs.map D.int, flB d = true := fun d hd => by
    obtain ⟨i, _, rfl⟩ := List.mem_map.mp hd
    rfl
  have : cmpR .NotEq (.d s) (.l []) h = cmpR .NotEq (.l (zs.map D.int)) (.l []) h := by
    unfold cmpR cmpT eqT
    have : pyT (.d s) h = pyT (.l (zs.map D.int)) h := by
      rcases c with rfl | ⟨n, rfl, e⟩
      · unfold pyT; simp only [pyD]
      · unfold pyT; simp only [e]
    simp only [this]
  rw [this]; exact c_nnil fl
theorem n_pow18 {h : AH} : binT .Pow (.d (.int 10)) (.d (.int 18)) h = .ok (.d (.int (10 ^ 18))) h := by kernel_rfl
theorem n_pow6 {h : AH} : binT .Pow (.d (.int 10)) (.d (.int 6)) h = .ok (.d (.int (10 ^ 6))) h := by kernel_rfl
theorem n_pow30 {h : AH} : binT .Pow (.d (.int 10)) (.d (.int 30)) h = .ok (.d (.int (10 ^ 30))) h := by kernel_rfl
theorem ifB {b : Bool} : (if b = true then (1 : Int) else 0) = 0 ∨ (if b = true then (1 : Int) else 0) = 1 := by cases b <;> simp
theorem call_rtl {wf k : Nat} {f : Str} {fn : Fn} {ds : List D} {xs : List D} {h : AH} (hf : Pg.fn f = some fn) (hl : ds.length = fn.ps) (hc : Cl h) (hb : belows h.length xs = true) (e : evSs (cfg Pg wf k) wf fn.body (ds.map some ++ List.replicate (fn.n - fn.ps) none) h = .rt (.l xs) h) :
    callF Pg wf (k + 1) f (ds.map Tm.d) h = .ok (.l xs) h :=
  call_cutl (e := []) hf hl (by rw [e, List.append_nil]) rfl hc hb
def b_tail : Ss := (.cons (.set (.nm 3) (.bi "max" (.cons (.bi "int" (.cons (.var 2) .nil)) (.cons (.bi "int" (.cons (.bin .Sub (.neg (.int 1)) (.var 2)) .nil)) .nil)))) (.cons (.set (.nm 4) (.bin .Mod (.bi "int" (.cons (.bin .Mult (.bin .Add (.bin .Add (.bin .Add (.bin .Mod (.bi "int" (.cons (.var 3) .nil)) (.int 2147483629)) (.bin .Mult (.bin .Mult (.int 7919) (.var 1)) (.var 1))) (.bin .Mult (.int 31) (.var 1))) (.int 17)) (.int 48271)) .nil)) (.int 2147483647))) (.cons (.ret (.lst (.cons (.bin .Mult (.var 3) (.bi "int" (.cons (.and (.cmp .GtE (.var 3) (.bin .Pow (.int 10) (.int 18))) (.cmp .Lt (.var 1) (.bi "len" (.cons (.var 0) .nil)))) .nil))) (.cons (.var 4) .nil)))) .nil)))
theorem pool_tail {C : Cfg} {wf : Nat} {s : D} {zs : List Int} {g : Nat} {c : Int} {h : AH} (S : Scr s zs h) (hg : g < 100) :
    ∃ a b : Int, evSs C wf b_tail [some s, some (.int g), some (.int c), none, none] h = .rt (.l [.int a, .int b]) h ∧ 0 ≤ a ∧ 0 ≤ b ∧ b < 2147483647 := by
  have bl : biT "len" [.d s] h = .ok (.d (.int (zs.map D.int).length)) h := b_len S.view S.str
  have m31 : (0 : Int) < 2147483647 := by decide
  have m29 : (0 : Int) < 2147483629 := by decide
  generalize hb : (if -1 - c > c then -1 - c else c) = big
  have b0 : 0 ≤ big := by rw [← hb]; split <;> omega
  have q1 := mulOk_r (i := 7919) (j := (g : Int)) (by omega) (by omega)
  have q2 := mulOk_r (i := 7919 * (g : Int)) (j := (g : Int)) (by omega) (by omega)
  have q3 := mulOk_r (i := 31) (j := (g : Int)) (by omega) (by omega)
  have q4 := mulOk_r (i := big % 2147483629 + 7919 * (g : Int) * (g : Int) + 31 * (g : Int) + 17) (j := 48271) (by decide) (by decide)
  have q0 := mulOk_r (i := big) (j := 0) (by decide) (by decide)
  have q5 := mulOk_r (i := big) (j := 1) (by decide) (by decide)
  have mn : 0 ≤ (big % 2147483629 + 7919 * (g : Int) * (g : Int) + 31 * (g : Int) + 17) * 48271 % 2147483647 := Int.emod_nonneg _ (by decide)
  have ml := Int.emod_lt_of_pos ((big % 2147483629 + 7919 * (g : Int) * (g : Int) + 31 * (g : Int) + 17) * 48271) m31
  by_cases h1 : (10 : Int) ^ 18 ≤ big
  · by_cases h2 : (g : Int) < (zs.map D.int).length
    · exact ⟨big * 1, _, by simp -implicitDefEqProofs only [b_tail, q_cons, q_nil, q_ite, kIte_a, kTw_t, kTw_f, q_set, kSet_a, kSo_a, q_setIx, kX1_a, kX2_a, kX3_a, kXo_a, q_ret, kRet_a, q_ex, kEx_a, q_raise, kRaise_a, q_ife, kIfe_a, kTe_t, kTe_f, q_and, kAnd_a, kAo_t, kAo_f, q_or, kOr_a, kOo_t, kOo_f, q_not, kNot_a, kNo_a, q_var, kVo_a, q_glob, kGo_a, q_int, q_bl, q_non, q_str, q_bin, kBin_a, kBin2_a, q_cmp, kCmp_a, kCmp2_a, q_ix, kIx_a, kIx2_a, q_neg, kNg_a, q_tup, kTup_b, q_lst, kLst_b, q_call, kCall_a, q_bi, kBi_a, q_isin, kIs_b, kIsO_a, q_consE, q_nilE, kEs_a, kEs2_a, q_chn, kC2_a, kC3_a, kC4_t, kC4_f, q_noC, q_yesC, kTr_a, kTb_a, kSome_a, kSt_t, kSt_f, q_comp, q_seq, kSeq_a, kSo2_a, q_for, kFor_a, q_rng1, kRng_a, q_enum, kEnum_a, q_fstr, kFs_a, q_consF, q_nilF, kF_a, q_fmt, kFm_a, kFmO_a, q_meth, kMe_a, kMe_b, kMe2_a, q_sl, kSl_a, kSl2_a, kSl3_a, q_rev, kRev_a, q_heard, kHd_ok, kHd_exc, q_par, kPa_a, kPa2_a, q_clr, q_noO, q_yesO, kOi_a, q_retN, q_pass, q_brk, q_cnt, R.bind_ok, R.out_ok, R.bind_exc, R.out_exc, sq_nx, sq_rt, sq_exc, sq_bk, sq_ct, t_bl, nam_d, nam_l, namAll_nil, namAll_cons, List.getElem?_cons_zero, List.getElem?_cons_succ, List.set_cons_zero, List.set_cons_succ, setTg_nm, List.length_cons, List.length_nil, Nat.reduceAdd, Nat.reduceLeDiff, Nat.zero_add, if_true, if_false, Bool.not_true, Bool.not_false, call_cfg, glob_cfg, b_int, b_intb, b_max, n_sub, hb, n_mod m29, n_mod m31, n_add, n_mul q1, n_mul q2, n_mul q3, n_mul q4, n_mul q5, n_pow18, c_ge, decide_eq_true h1, bl, c_lt, decide_eq_true h2], by omega, mn, ml⟩
    · exact ⟨big * 0, _, by simp -implicitDefEqProofs only [b_tail, q_cons, q_nil, q_ite, kIte_a, kTw_t, kTw_f, q_set, kSet_a, kSo_a, q_setIx, kX1_a, kX2_a, kX3_a, kXo_a, q_ret, kRet_a, q_ex, kEx_a, q_raise, kRaise_a, q_ife, kIfe_a, kTe_t, kTe_f, q_and, kAnd_a, kAo_t, kAo_f, q_or, kOr_a, kOo_t, kOo_f, q_not, kNot_a, kNo_a, q_var, kVo_a, q_glob, kGo_a, q_int, q_bl, q_non, q_str, q_bin, kBin_a, kBin2_a, q_cmp, kCmp_a, kCmp2_a, q_ix, kIx_a, kIx2_a, q_neg, kNg_a, q_tup, kTup_b, q_lst, kLst_b, q_call, kCall_a, q_bi, kBi_a, q_isin, kIs_b, kIsO_a, q_consE, q_nilE, kEs_a, kEs2_a, q_chn, kC2_a, kC3_a, kC4_t, kC4_f, q_noC, q_yesC, kTr_a, kTb_a, kSome_a, kSt_t, kSt_f, q_comp, q_seq, kSeq_a, kSo2_a, q_for, kFor_a, q_rng1, kRng_a, q_enum, kEnum_a, q_fstr, kFs_a, q_consF, q_nilF, kF_a, q_fmt, kFm_a, kFmO_a, q_meth, kMe_a, kMe_b, kMe2_a, q_sl, kSl_a, kSl2_a, kSl3_a, q_rev, kRev_a, q_heard, kHd_ok, kHd_exc, q_par, kPa_a, kPa2_a, q_clr, q_noO, q_yesO, kOi_a, q_retN, q_pass, q_brk, q_cnt, R.bind_ok, R.out_ok, R.bind_exc, R.out_exc, sq_nx, sq_rt, sq_exc, sq_bk, sq_ct, t_bl, nam_d, nam_l, namAll_nil, namAll_cons, List.getElem?_cons_zero, List.getElem?_cons_succ, List.set_cons_zero, List.set_cons_succ, setTg_nm, List.length_cons, List.length_nil, Nat.reduceAdd, Nat.reduceLeDiff, Nat.zero_add, if_true, if_false, Bool.not_true, Bool.not_false, call_cfg, glob_cfg, b_int, b_intb, b_max, n_sub, hb, n_mod m29, n_mod m31, n_add, n_mul q1, n_mul q2, n_mul q3, n_mul q4, n_mul q0, n_pow18, c_ge, decide_eq_true h1, bl, c_lt, decide_eq_false h2, Bool.false_eq_true], by omega, mn, ml⟩
  · exact ⟨big * 0, _, by simp -implicitDefEqProofs only [b_tail, q_cons, q_nil, q_ite, kIte_a, kTw_t, kTw_f, q_set, kSet_a, kSo_a, q_setIx, kX1_a, kX2_a, kX3_a, kXo_a, q_ret, kRet_a, q_ex, kEx_a, q_raise, kRaise_a, q_ife, kIfe_a, kTe_t, kTe_f, q_and, kAnd_a, kAo_t, kAo_f, q_or, kOr_a, kOo_t, kOo_f, q_not, kNot_a, kNo_a, q_var, kVo_a, q_glob, kGo_a, q_int, q_bl, q_non, q_str, q_bin, kBin_a, kBin2_a, q_cmp, kCmp_a, kCmp2_a, q_ix, kIx_a, kIx2_a, q_neg, kNg_a, q_tup, kTup_b, q_lst, kLst_b, q_call, kCall_a, q_bi, kBi_a, q_isin, kIs_b, kIsO_a, q_consE, q_nilE, kEs_a, kEs2_a, q_chn, kC2_a, kC3_a, kC4_t, kC4_f, q_noC, q_yesC, kTr_a, kTb_a, kSome_a, kSt_t, kSt_f, q_comp, q_seq, kSeq_a, kSo2_a, q_for, kFor_a, q_rng1, kRng_a, q_enum, kEnum_a, q_fstr, kFs_a, q_consF, q_nilF, kF_a, q_fmt, kFm_a, kFmO_a, q_meth, kMe_a, kMe_b, kMe2_a, q_sl, kSl_a, kSl2_a, kSl3_a, q_rev, kRev_a, q_heard, kHd_ok, kHd_exc, q_par, kPa_a, kPa2_a, q_clr, q_noO, q_yesO, kOi_a, q_retN, q_pass, q_brk, q_cnt, R.bind_ok, R.out_ok, R.bind_exc, R.out_exc, sq_nx, sq_rt, sq_exc, sq_bk, sq_ct, t_bl, nam_d, nam_l, namAll_nil, namAll_cons, List.getElem?_cons_zero, List.getElem?_cons_succ, List.set_cons_zero, List.set_cons_succ, setTg_nm, List.length_cons, List.length_nil, Nat.reduceAdd, Nat.reduceLeDiff, Nat.zero_add, if_true, if_false, Bool.not_true, Bool.not_false, call_cfg, glob_cfg, b_int, b_intb, b_max, n_sub, hb, n_mod m29, n_mod m31, n_add, n_mul q1, n_mul q2, n_mul q3, n_mul q4, n_mul q0, n_pow18, c_ge, decide_eq_false h1, Bool.false_eq_true], by omega, mn, ml⟩
theorem pool_ok {wf k : Nat} {s : D} {zs : List Int} {g : Nat} {h : AH} (S : Scr s zs h) (hg : g < 100) (hc : Cl h) :
    ∃ a b : Int, callF Pg wf (k + 1) "_law_pool" [.d s, .d (.int g)] h = .ok (.l [.int a, .int b]) h ∧ 0 ≤ a ∧ 0 ≤ b ∧ b < 2147483647 := by
  have bl : biT "len" [.d s] h = .ok (.d (.int (zs.map D.int).length)) h := b_len S.view S.str
  have fin : ∀ c : Int, evSs (cfg Pg wf k) wf b_law_pool [some s, some (.int g), none, none, none] h = evSs (cfg Pg wf k) wf b_tail [some s, some (.int g), some (.int c), none, none] h → ∃ a b : Int, callF Pg wf (k + 1) "_law_pool" [.d s, .d (.int g)] h = .ok (.l [.int a, .int b]) h ∧ 0 ≤ a ∧ 0 ≤ b ∧ b < 2147483647 := fun c e => by
    obtain ⟨a, b, e2, r⟩ := pool_tail (C := cfg Pg wf k) (wf := wf) (c := c) S hg
    exact ⟨a, b, call_rtl (ds := [s, .int g]) fn_law_pool rfl hc (by simp [belows, below]) (e.trans e2), r⟩
  have hn : (zs.map D.int).length = zs.length := List.length_map _
  generalize (zs.map D.int).length = n at bl hn
  by_cases h2 : (g : Int) < n
  · have hz : g < zs.length := by omega
    have ix := S.ix (List.getElem?_eq_getElem hz)
    refine fin zs[g] ?_
    simp -implicitDefEqProofs only [b_law_pool, b_tail, q_cons, q_set, q_int, R.out_ok, kSet_a, nam_d, setTg_nm, kSo_a, sq_nx, q_ite, q_cmp, q_bi, q_consE, q_nilE, q_var, List.getElem?_cons_zero, List.getElem?_cons_succ, List.set_cons_zero, List.set_cons_succ, kVo_a, R.bind_ok, kEs_a, kEs2_a, kBi_a, bl, kCmp_a, kCmp2_a, c_lt, decide_eq_true h2, kIte_a, t_bl, kTw_t, q_ix, kIx_a, kIx2_a, ix, q_nil]
  · cases zs with
    | nil =>
      refine fin 0 ?_
      have ne : cmpR .NotEq (.d s) (.l []) h = .ok (.d (.bl false)) h := S.ne
      simp -implicitDefEqProofs only [b_law_pool, b_tail, q_cons, q_set, q_int, R.out_ok, kSet_a, nam_d, setTg_nm, kSo_a, sq_nx, q_ite, q_cmp, q_bi, q_consE, q_nilE, q_var, List.getElem?_cons_zero, List.getElem?_cons_succ, List.set_cons_zero, List.set_cons_succ, kVo_a, R.bind_ok, kEs_a, kEs2_a, kBi_a, bl, kCmp_a, kCmp2_a, c_lt, decide_eq_false h2, kIte_a, t_bl, kTw_f, q_lst, kLst_b, namAll_nil, List.length_nil, Nat.zero_le, ne, q_nil]
    | cons z zs =>
      refine fin z ?_
      have ne : cmpR .NotEq (.d s) (.l []) h = .ok (.d (.bl true)) h := S.ne
      have ix := S.ix (i := 0) (z := z) rfl
      have ix0 : ixT (.d s) (.d (.int 0)) h = .ok (.d (.int z)) h := ix
      simp -implicitDefEqProofs only [b_law_pool, b_tail, q_cons, q_set, q_int, R.out_ok, kSet_a, nam_d, setTg_nm, kSo_a, sq_nx, q_ite, q_cmp, q_bi, q_consE, q_nilE, q_var, List.getElem?_cons_zero, List.getElem?_cons_succ, List.set_cons_zero, List.set_cons_succ, kVo_a, R.bind_ok, kEs_a, kEs2_a, kBi_a, bl, kCmp_a, kCmp2_a, c_lt, decide_eq_false h2, kIte_a, t_bl, kTw_f, q_lst, kLst_b, namAll_nil, List.length_nil, Nat.zero_le, ne, kTw_t, q_ix, kIx_a, kIx2_a, ix0, q_nil]
end K33

set_option Elab.async false
set_option linter.all false
set_option maxRecDepth 100000
set_option maxHeartbeats 4000000
/-! Pure13: names drawn. -/
namespace K33
open PySem Mill HeadK
def one (c : Nat) : Str := ⟨#[c]⟩
theorem letters_all : ((List.range 26).all fun n => match LET.cps.toList[n]? with | some c => okL c && decide (c < 1114112) | none => false) = true := by kernel_rfl
theorem letter_at {r : Int} (h0 : 0 ≤ r) (h1 : r < 26) : ∃ c, LET.cps.toList[r.toNat]? = some c ∧ okL c = true ∧ c < 1114112 := by
  have := List.all_eq_true.mp letters_all r.toNat (List.mem_range.mpr (by omega))
  cases e : LET.cps.toList[r.toNat]? with
  | none => rw [e] at this; cases this
  | some c =>
    rw [e] at this
    simp only [Bool.and_eq_true, decide_eq_true_eq] at this
    exact ⟨c, rfl, this⟩
theorem i_let {r : Int} {c : Nat} {h : AH} (h0 : 0 ≤ r) (e : LET.cps.toList[r.toNat]? = some c) : ixT (.d (.str LET)) (.d (.int r)) h = .ok (.d (sgn c)) h := by
  have a := L2.atI_nat e
  rw [Int.toNat_of_nonneg h0] at a
  have l : LET.length ≤ sizeLine := by rw [sizeLine_eq]; decide +kernel
  unfold ixT
  simp only [a, l, if_true]; rfl
theorem join_ones (cs : List Nat) : Txt.join "" (cs.map one) = ⟨cs.toArray⟩ := by
  have g : ∀ (cs : List Nat) (acc : Array Nat), (cs.map one).foldl (fun acc p => acc ++ (Str.ofString "").cps ++ p.cps) acc = acc ++ cs.toArray := fun cs => by
    have e0 : (Str.ofString "").cps = #[] := by decide +kernel
    rw [e0]
    induction cs with
    | nil => intro acc; simp
    | cons a l ih =>
      intro acc
      rw [List.map_cons, List.foldl_cons, ih]
      simp [one]
  cases cs with
  | nil => decide +kernel
  | cons a l =>
    show (⟨((one a :: l.map one).drop 1).foldl (fun acc p => acc ++ (Str.ofString "").cps ++ p.cps) (one a).cps⟩ : Str) = _
    rw [List.drop_one, List.tail_cons, g]
    simp [one]
/-- a name that is drawn -/
structure NmOk (x : Str) : Prop where
  ok : PyData.strOk x = true
  len1 : 1 ≤ x.length
  len : x.length ≤ 12
  lets : x.cps.toList.all okL = true
theorem NmOk.name {x : Str} (n : NmOk x) (hn : (x == ("none" : Str)) = false) : nameB x = true := by
  unfold nameB
  rw [decide_eq_true n.len1, decide_eq_true n.len, hn, n.lets]; rfl
theorem of_letters {cs : List Nat} (h1 : 1 ≤ cs.length) (h2 : cs.length ≤ 12) (hc : ∀ c ∈ cs, okL c = true ∧ c < 1114112) : NmOk ⟨cs.toArray⟩ where
  ok := by
    unfold PyData.strOk
    simp only [List.all_toArray, List.all_eq_true]
    intro c h
    exact decide_eq_true (hc c h).2
  len1 := by unfold Str.length; simpa using h1
  len := by unfold Str.length; simpa using h2
  lets := by simpa using fun c h => (hc c h).1
theorem inD_strs {ds : List D} {x : Str} (hd : ∀ y ∈ ds, nmB y = true) : inD (.str x) ds = some (ds.any fun y => eqF y (.str x)) := by
  unfold inD
  have : (ds.all flatD) = true := List.all_eq_true.mpr fun y hy => by
    obtain ⟨s, rfl⟩ := flat_str (hd y hy); rfl
  rw [this]; rfl
theorem c_ninr {n : Nat} {ds : List D} {x : Str} {h : AH} (e : h[n]? = some (.lst ds)) (hd : ∀ y ∈ ds, nmB y = true) : cmpR .NotIn (.d (.str x)) (.d (.ref n)) h = .ok (.d (.bl (!ds.any fun y => eqF y (.str x)))) h := by
  have : inT (.d (.str x)) (.d (.ref n)) h = some (ds.any fun y => eqF y (.str x)) := by
    rw [inT_d fun s z => (by cases z), viewS_ref e]; exact inD_strs hd
  unfold cmpR cmpT; simp only [this]; rfl
theorem sgn_map (cs : List Nat) : cs.map sgn = (cs.map one).map D.str := by
  rw [List.map_map]; rfl
theorem all_sgn {ds : List D} (h : ∀ y ∈ ds, ∃ c, y = sgn c ∧ okL c = true ∧ c < 1114112) : ∃ cs : List Nat, ds = cs.map sgn ∧ ∀ c ∈ cs, okL c = true ∧ c < 1114112 := by
  induction ds with
  | nil => exact ⟨[], rfl, fun c h => by cases h⟩
  | cons a l ih =>
    obtain ⟨cs, rfl, h2⟩ := ih fun y hy => h y (List.mem_cons_of_mem _ hy)
    obtain ⟨c, rfl, h3⟩ := h a List.mem_cons_self
    exact ⟨c :: cs, rfl, fun x hx => by
      rcases List.mem_cons.mp hx with rfl | hx
      · exact h3
      · exact h2 x hx⟩
def e_name : E := (.meth "join" (.str "") (.cons (.comp (.ix (.call "_law_letters" .nil) (.call "_law_take" (.cons (.var 0) (.cons (.int 26) .nil)))) (.nm 7) (.rng1 (.var 5)) .no) .nil))
theorem name_draw {wf k j : Nat} {h : AH} {z : Int} {x1 x2 x3 x4 x6 x8 : Option D} (J : Jar h j) (h1 : 1 ≤ z) (h2 : z ≤ 12) :
    ∃ (x : Str) (h' : AH), evE (cfg Pg wf (k + 1)) e_name [some (.ref j), x1, x2, x3, x4, some (.int z), x6, none, x8] h = .ok (.d (.str x)) h' ∧ NmOk x ∧ Drawn h h' j := by
  have zn : ((z.toNat : Nat) : Int) = z := Int.toNat_of_nonneg (by omega)
  have hs := sizeLine_eq
  obtain ⟨ds, h', q1, q2, q3, q4⟩ := compL_inv (s := rng1S z) (step := kStep (cfg Pg wf (k + 1)) (.ix (.call "_law_letters" .nil) (.call "_law_take" (.cons (.var 0) (.cons (.int 26) .nil)))) (.nm 7) .no [some (.ref j), x1, x2, x3, x4, some (.int z), x6, none, x8]) (n := z.toNat) (fun h' => Drawn h h' j) (fun y => ∃ c, y = sgn c ∧ okL c = true ∧ c < 1114112)
    (fun i h1 hi hI => by
      obtain ⟨r, h2, e1, r0, r1, d2⟩ := take_ok (wf := wf) (k := k) (top := 26) hI.1 (by decide) (by decide +kernel)
      obtain ⟨c, ec, c1, c2⟩ := letter_at r0 r1
      refine ⟨.int (0 + (i : Nat)), sgn c, h2, rfl, ?_, ⟨c, rfl, c1, c2⟩, hI.trans d2⟩
      rw [kStep_a setTg_nm]
      have lt : ∀ h, callF Pg wf (k + 1) "_law_letters" [] h = .ok (.d (.str LET)) h := fun h => letters_ok
      simp -implicitDefEqProofs only [q_cons, q_nil, q_ite, kIte_a, kTw_t, kTw_f, q_set, kSet_a, kSo_a, q_setIx, kX1_a, kX2_a, kX3_a, kXo_a, q_ret, kRet_a, q_ex, kEx_a, q_raise, kRaise_a, q_ife, kIfe_a, kTe_t, kTe_f, q_and, kAnd_a, kAo_t, kAo_f, q_or, kOr_a, kOo_t, kOo_f, q_not, kNot_a, kNo_a, q_var, kVo_a, q_glob, kGo_a, q_int, q_bl, q_non, q_str, q_bin, kBin_a, kBin2_a, q_cmp, kCmp_a, kCmp2_a, q_ix, kIx_a, kIx2_a, q_neg, kNg_a, q_tup, kTup_b, q_lst, kLst_b, q_call, kCall_a, q_bi, kBi_a, q_isin, kIs_b, kIsO_a, q_consE, q_nilE, kEs_a, kEs2_a, q_chn, kC2_a, kC3_a, kC4_t, kC4_f, q_noC, q_yesC, kTr_a, kTb_a, kSome_a, kSt_t, kSt_f, q_comp, q_seq, kSeq_a, kSo2_a, q_for, kFor_a, q_rng1, kRng_a, q_enum, kEnum_a, q_fstr, kFs_a, q_consF, q_nilF, kF_a, q_fmt, kFm_a, kFmO_a, q_meth, kMe_a, kMe_b, kMe2_a, q_sl, kSl_a, kSl2_a, kSl3_a, q_rev, kRev_a, q_heard, kHd_ok, kHd_exc, q_par, kPa_a, kPa2_a, q_clr, q_noO, q_yesO, kOi_a, q_retN, q_pass, q_brk, q_cnt, R.bind_ok, R.out_ok, R.bind_exc, R.out_exc, sq_nx, sq_rt, sq_exc, sq_bk, sq_ct, t_bl, nam_d, nam_l, namAll_nil, namAll_cons, List.getElem?_cons_zero, List.getElem?_cons_succ, List.set_cons_zero, List.set_cons_succ, setTg_nm, List.length_cons, List.length_nil, Nat.reduceAdd, Nat.reduceLeDiff, Nat.zero_add, if_true, if_false, Bool.not_true, Bool.not_false, call_cfg, glob_cfg, lt, e1, i_let r0 ec]) (fun h1 _ => rfl) z.toNat 0 [] h (by omega) (by rw [hs]; simp; omega) (Drawn.refl J) (fun y hy => by cases hy)
  obtain ⟨cs, rfl, hc⟩ := all_sgn q3
  have hl : cs.length = z.toNat := by simpa using q2
  refine ⟨⟨cs.toArray⟩, h', ?_, of_letters (by omega) (by omega) hc, q4⟩
  have jn := m_join (a := "") (ys := cs.map one) (h := h') (by
    have := lines_sum (ts := cs.map one) (n := 12) (fun t ht => by
      obtain ⟨c, _, rfl⟩ := List.mem_map.mp ht
      show 1 ≤ _
      omega) (by rw [List.length_map]; omega)
    have e0 : (Str.ofString "").length = 0 := by decide +kernel
    rw [e0]; omega)
  rw [← sgn_map, join_ones] at jn
  have kc : kComp (cfg Pg wf (k + 1)) (.ix (.call "_law_letters" .nil) (.call "_law_take" (.cons (.var 0) (.cons (.int 26) .nil)))) (.nm 7) .no [some (.ref j), x1, x2, x3, x4, some (.int z), x6, none, x8] (rng1S z) h = .ok (.l (cs.map sgn)) h' := q1
  have rz : (-(2 ^ 62) ≤ z ∧ z < 2 ^ 62) = True := eq_true ⟨by omega, by omega⟩
  simp -implicitDefEqProofs only [e_name, q_cons, q_nil, q_ite, kIte_a, kTw_t, kTw_f, q_set, kSet_a, kSo_a, q_setIx, kX1_a, kX2_a, kX3_a, kXo_a, q_ret, kRet_a, q_ex, kEx_a, q_raise, kRaise_a, q_ife, kIfe_a, kTe_t, kTe_f, q_and, kAnd_a, kAo_t, kAo_f, q_or, kOr_a, kOo_t, kOo_f, q_not, kNot_a, kNo_a, q_var, kVo_a, q_glob, kGo_a, q_int, q_bl, q_non, q_str, q_bin, kBin_a, kBin2_a, q_cmp, kCmp_a, kCmp2_a, q_ix, kIx_a, kIx2_a, q_neg, kNg_a, q_tup, kTup_b, q_lst, kLst_b, q_call, kCall_a, q_bi, kBi_a, q_isin, kIs_b, kIsO_a, q_consE, q_nilE, kEs_a, kEs2_a, q_chn, kC2_a, kC3_a, kC4_t, kC4_f, q_noC, q_yesC, kTr_a, kTb_a, kSome_a, kSt_t, kSt_f, q_comp, q_seq, kSeq_a, kSo2_a, q_for, kFor_a, q_rng1, kRng_a, q_enum, kEnum_a, q_fstr, kFs_a, q_consF, q_nilF, kF_a, q_fmt, kFm_a, kFmO_a, q_meth, kMe_a, kMe_b, kMe2_a, q_sl, kSl_a, kSl2_a, kSl3_a, q_rev, kRev_a, q_heard, kHd_ok, kHd_exc, q_par, kPa_a, kPa2_a, q_clr, q_noO, q_yesO, kOi_a, q_retN, q_pass, q_brk, q_cnt, R.bind_ok, R.out_ok, R.bind_exc, R.out_exc, sq_nx, sq_rt, sq_exc, sq_bk, sq_ct, t_bl, nam_d, nam_l, namAll_nil, namAll_cons, List.getElem?_cons_zero, List.getElem?_cons_succ, List.set_cons_zero, List.set_cons_succ, setTg_nm, List.length_cons, List.length_nil, Nat.reduceAdd, Nat.reduceLeDiff, Nat.zero_add, if_true, if_false, Bool.not_true, Bool.not_false, call_cfg, glob_cfg, recv_join, kRng_a rz, kc, jn]
theorem nodup_sub {α : Type} [DecidableEq α] : ∀ {l m : List α}, l.Nodup → (∀ x ∈ l, x ∈ m) → l.length ≤ m.length
  | [], _, _, _ => Nat.zero_le _
  | a :: l, m, hn, hs => by
    have ha := hs a List.mem_cons_self
    have hn' := List.nodup_cons.mp hn
    have := nodup_sub (l := l) (m := m.erase a) hn'.2 fun x hx => by
      have : x ≠ a := fun z => hn'.1 (z ▸ hx)
      exact (List.mem_erase_of_ne this).mpr (hs x (List.mem_cons_of_mem _ hx))
    rw [List.length_erase_of_mem ha] at this
    have : 0 < m.length := List.length_pos_of_mem ha
    simp only [List.length_cons]; omega
def cand (e : Str) : List Str := LET.cps.toList.map fun c => one c ++ e
def cands : List Str := cand "x" ++ cand "xy" ++ cand "xyz"
theorem cands_len : cands.length = 78 := by decide +kernel
theorem cands_nodup : cands.Nodup := by decide +kernel
theorem cands_ok : (cands.all fun x => nameB x && PyData.strOk x) = true := by kernel_rfl
def nin (ds : List D) (x : Str) : Bool := !ds.any fun y => eqF y (.str x)
theorem cands_left {ds : List D} (hd : ∀ y ∈ ds, nmB y = true) (hl : ds.length < 78) : ∃ x l, cands.filter (nin ds) = x :: l := by
  cases e : cands.filter (nin ds) with
  | cons x l => exact ⟨x, l, rfl⟩
  | nil =>
    exfalso
    obtain ⟨ss, rfl⟩ : ∃ ss : List Str, ds = ss.map D.str := by
      clear hl e
      induction ds with
      | nil => exact ⟨[], rfl⟩
      | cons a l ih =>
        obtain ⟨ss, rfl⟩ := ih fun y hy => hd y (List.mem_cons_of_mem _ hy)
        obtain ⟨s, rfl⟩ := flat_str (hd a List.mem_cons_self)
        exact ⟨s :: ss, rfl⟩
    have := nodup_sub (l := cands) (m := ss) cands_nodup fun x hx => by
      have := List.filter_eq_nil_iff.mp e x hx
      unfold nin at this
      simp only [Bool.not_eq_true, Bool.not_eq_false', List.any_eq_true] at this
      obtain ⟨y, hy, e2⟩ := this
      obtain ⟨s, hs, rfl⟩ := List.mem_map.mp hy
      have e2 : (s == x) = true := e2
      rw [← beq_iff_eq.mp e2]; exact hs
    rw [cands_len] at this
    rw [List.length_map] at hl
    omega
/-- right names, and one more -/
structure Good (ds : List D) : Prop where
  pl : plDs ds = true
  bad : ∀ i, i < ds.length → badN ds i = false
theorem Good.names {ds : List D} (g : Good ds) : ∀ y ∈ ds, nmB y = true := by
  have := good_before (Nat.le_refl _) g.bad
  rwa [List.take_length] at this
theorem Good.none {ds : List D} (g : Good ds) : badNm ds = none := List.find?_eq_none.mpr fun i hi => by
  have := g.bad i (by simp [List.mem_range'] at hi; omega)
  simp [this]
theorem Good.snoc {ds : List D} {x : Str} (g : Good ds) (hx : nameB x = true) (ok : PyData.strOk x = true) (hn : nin ds x = true) : Good (ds ++ [.str x]) where
  pl := plDs_of fun d hd => by
    rcases List.mem_append.mp hd with hd | hd
    · exact plDs_mem g.pl hd
    · rw [List.mem_singleton.mp hd]
      unfold plD
      rw [ok]
      have : x.length ≤ 12 := by
        unfold nameB at hx
        simp only [Bool.and_eq_true, decide_eq_true_eq] at hx
        exact hx.2.1
      simp; omega
  bad := fun i hi => by
    rw [List.length_append] at hi
    unfold badN
    by_cases h2 : i < ds.length
    · rw [List.getElem?_append_left h2, List.take_append_of_le_length (by omega)]
      have := g.bad i h2
      unfold badN at this
      exact this
    · have : i = ds.length := by simp at hi; omega
      subst this
      rw [List.getElem?_append_right (Nat.le_refl _), Nat.sub_self, List.take_left]
      show (!nameB x || ds.any fun y => eqF y (.str x)) = false
      unfold nin at hn
      rw [hx]
      simpa using hn
end K33

set_option Elab.async false
set_option linter.all false
set_option maxRecDepth 100000
set_option maxHeartbeats 4000000
/-! Pure14: names drawn, one by one. -/
namespace K33
open PySem Mill HeadK
def b_sn1 : Ss := (.cons (.set (.nm 5) (.call "_law_one" (.cons (.var 0) (.cons (.lst (.cons (.int 1) (.cons (.int 2) (.cons (.int 3) (.cons (.int 12) (.cons (.bin .Add (.int 1) (.call "_law_take" (.cons (.var 0) (.cons (.int 12) .nil)))) .nil)))))) .nil)))) (.cons (.set (.nm 6) e_name) (.cons (.ite (.and (.cmp .NotIn (.var 6) (.var 1)) (.cmp .NotEq (.var 6) (.str "none"))) (.cons (.ret (.var 6)) .nil) .nil) .nil)))
theorem sn1_turn {wf k j m : Nat} {h : AH} {ds : List D} {x2 x5 x6 : Option D} (J : Jar h j) (cl : Cl h) (hm : h[m]? = some (.lst ds)) (hmj : m ≠ j) (hd : ∀ y ∈ ds, nmB y = true) :
    (∃ x h', evSs (cfg Pg wf (k + 2)) wf b_sn1 [some (.ref j), some (.ref m), x2, none, none, x5, x6, none, none] h = .rt (.d (.str x)) h' ∧ nameB x = true ∧ PyData.strOk x = true ∧ nin ds x = true ∧ Drawn h h' j) ∨
    ∃ x5' x6' h', evSs (cfg Pg wf (k + 2)) wf b_sn1 [some (.ref j), some (.ref m), x2, none, none, x5, x6, none, none] h = .nx [some (.ref j), some (.ref m), x2, none, none, x5', x6', none, none] h' ∧ Drawn h h' j := by
  obtain ⟨r, h1, e1, r0, r1, d1⟩ := take_ok (wf := wf) (k := k + 1) (top := 12) J (by decide) (by decide +kernel)
  obtain ⟨z, h2, e2, zm, d2⟩ := one_ok (wf := wf) (k := k) (ds := [.int 1, .int 2, .int 3, .int 12, .int (1 + r)]) d1.1 (d1.cl cl) (by simp [belows, below]) (by simp) (by simp)
  obtain ⟨z, rfl, z1, z2⟩ : ∃ i : Int, z = .int i ∧ 1 ≤ i ∧ i ≤ 12 := by
    simp only [List.mem_cons, List.not_mem_nil, or_false] at zm
    rcases zm with rfl | rfl | rfl | rfl | rfl
    · exact ⟨1, rfl, by omega, by omega⟩
    · exact ⟨2, rfl, by omega, by omega⟩
    · exact ⟨3, rfl, by omega, by omega⟩
    · exact ⟨12, rfl, by omega, by omega⟩
    · exact ⟨1 + r, rfl, by omega, by omega⟩
  have d12 := d1.trans d2
  obtain ⟨x, h3, e3, nx, d3⟩ := name_draw (wf := wf) (k := k + 1) (x1 := some (.ref m)) (x2 := x2) (x3 := none) (x4 := none) (x6 := x6) (x8 := none) d12.1 z1 z2
  have d := d12.trans d3
  have hm3 : h3[m]? = some (.lst ds) := by rw [d.at hmj]; exact hm
  have c1 := c_ninr (x := x) hm3 hd
  have c2 := c_nes (h := h3) nx.ok none_ok
  cases q1 : nin ds x with
  | false =>
    have q1' : (!ds.any fun y => eqF y (.str x)) = false := q1
    exact .inr ⟨some (.int z), some (.str x), h3, by simp -implicitDefEqProofs only [b_sn1, q_cons, q_nil, q_ite, kIte_a, kTw_t, kTw_f, q_set, kSet_a, kSo_a, q_setIx, kX1_a, kX2_a, kX3_a, kXo_a, q_ret, kRet_a, q_ex, kEx_a, q_raise, kRaise_a, q_ife, kIfe_a, kTe_t, kTe_f, q_and, kAnd_a, kAo_t, kAo_f, q_or, kOr_a, kOo_t, kOo_f, q_not, kNot_a, kNo_a, q_var, kVo_a, q_glob, kGo_a, q_int, q_bl, q_non, q_str, q_bin, kBin_a, kBin2_a, q_cmp, kCmp_a, kCmp2_a, q_ix, kIx_a, kIx2_a, q_neg, kNg_a, q_tup, kTup_b, q_lst, kLst_b, q_call, kCall_a, q_bi, kBi_a, q_isin, kIs_b, kIsO_a, q_consE, q_nilE, kEs_a, kEs2_a, q_chn, kC2_a, kC3_a, kC4_t, kC4_f, q_noC, q_yesC, kTr_a, kTb_a, kSome_a, kSt_t, kSt_f, q_comp, q_seq, kSeq_a, kSo2_a, q_for, kFor_a, q_rng1, kRng_a, q_enum, kEnum_a, q_fstr, kFs_a, q_consF, q_nilF, kF_a, q_fmt, kFm_a, kFmO_a, q_meth, kMe_a, kMe_b, kMe2_a, q_sl, kSl_a, kSl2_a, kSl3_a, q_rev, kRev_a, q_heard, kHd_ok, kHd_exc, q_par, kPa_a, kPa2_a, q_clr, q_noO, q_yesO, kOi_a, q_retN, q_pass, q_brk, q_cnt, R.bind_ok, R.out_ok, R.bind_exc, R.out_exc, sq_nx, sq_rt, sq_exc, sq_bk, sq_ct, t_bl, nam_d, nam_l, namAll_nil, namAll_cons, List.getElem?_cons_zero, List.getElem?_cons_succ, List.set_cons_zero, List.set_cons_succ, setTg_nm, List.length_cons, List.length_nil, Nat.reduceAdd, Nat.reduceLeDiff, Nat.zero_add, if_true, if_false, Bool.not_true, Bool.not_false, call_cfg, glob_cfg, e1, n_add, e2, e3, c1, q1'], d⟩
  | true =>
    have q1' : (!ds.any fun y => eqF y (.str x)) = true := q1
    cases q2 : x == ("none" : Str) with
    | true => exact .inr ⟨some (.int z), some (.str x), h3, by simp -implicitDefEqProofs only [b_sn1, q_cons, q_nil, q_ite, kIte_a, kTw_t, kTw_f, q_set, kSet_a, kSo_a, q_setIx, kX1_a, kX2_a, kX3_a, kXo_a, q_ret, kRet_a, q_ex, kEx_a, q_raise, kRaise_a, q_ife, kIfe_a, kTe_t, kTe_f, q_and, kAnd_a, kAo_t, kAo_f, q_or, kOr_a, kOo_t, kOo_f, q_not, kNot_a, kNo_a, q_var, kVo_a, q_glob, kGo_a, q_int, q_bl, q_non, q_str, q_bin, kBin_a, kBin2_a, q_cmp, kCmp_a, kCmp2_a, q_ix, kIx_a, kIx2_a, q_neg, kNg_a, q_tup, kTup_b, q_lst, kLst_b, q_call, kCall_a, q_bi, kBi_a, q_isin, kIs_b, kIsO_a, q_consE, q_nilE, kEs_a, kEs2_a, q_chn, kC2_a, kC3_a, kC4_t, kC4_f, q_noC, q_yesC, kTr_a, kTb_a, kSome_a, kSt_t, kSt_f, q_comp, q_seq, kSeq_a, kSo2_a, q_for, kFor_a, q_rng1, kRng_a, q_enum, kEnum_a, q_fstr, kFs_a, q_consF, q_nilF, kF_a, q_fmt, kFm_a, kFmO_a, q_meth, kMe_a, kMe_b, kMe2_a, q_sl, kSl_a, kSl2_a, kSl3_a, q_rev, kRev_a, q_heard, kHd_ok, kHd_exc, q_par, kPa_a, kPa2_a, q_clr, q_noO, q_yesO, kOi_a, q_retN, q_pass, q_brk, q_cnt, R.bind_ok, R.out_ok, R.bind_exc, R.out_exc, sq_nx, sq_rt, sq_exc, sq_bk, sq_ct, t_bl, nam_d, nam_l, namAll_nil, namAll_cons, List.getElem?_cons_zero, List.getElem?_cons_succ, List.set_cons_zero, List.set_cons_succ, setTg_nm, List.length_cons, List.length_nil, Nat.reduceAdd, Nat.reduceLeDiff, Nat.zero_add, if_true, if_false, Bool.not_true, Bool.not_false, call_cfg, glob_cfg, e1, n_add, e2, e3, c1, q1', c2, q2], d⟩
    | false => exact .inl ⟨x, h3, by simp -implicitDefEqProofs only [b_sn1, q_cons, q_nil, q_ite, kIte_a, kTw_t, kTw_f, q_set, kSet_a, kSo_a, q_setIx, kX1_a, kX2_a, kX3_a, kXo_a, q_ret, kRet_a, q_ex, kEx_a, q_raise, kRaise_a, q_ife, kIfe_a, kTe_t, kTe_f, q_and, kAnd_a, kAo_t, kAo_f, q_or, kOr_a, kOo_t, kOo_f, q_not, kNot_a, kNo_a, q_var, kVo_a, q_glob, kGo_a, q_int, q_bl, q_non, q_str, q_bin, kBin_a, kBin2_a, q_cmp, kCmp_a, kCmp2_a, q_ix, kIx_a, kIx2_a, q_neg, kNg_a, q_tup, kTup_b, q_lst, kLst_b, q_call, kCall_a, q_bi, kBi_a, q_isin, kIs_b, kIsO_a, q_consE, q_nilE, kEs_a, kEs2_a, q_chn, kC2_a, kC3_a, kC4_t, kC4_f, q_noC, q_yesC, kTr_a, kTb_a, kSome_a, kSt_t, kSt_f, q_comp, q_seq, kSeq_a, kSo2_a, q_for, kFor_a, q_rng1, kRng_a, q_enum, kEnum_a, q_fstr, kFs_a, q_consF, q_nilF, kF_a, q_fmt, kFm_a, kFmO_a, q_meth, kMe_a, kMe_b, kMe2_a, q_sl, kSl_a, kSl2_a, kSl3_a, q_rev, kRev_a, q_heard, kHd_ok, kHd_exc, q_par, kPa_a, kPa2_a, q_clr, q_noO, q_yesO, kOi_a, q_retN, q_pass, q_brk, q_cnt, R.bind_ok, R.out_ok, R.bind_exc, R.out_exc, sq_nx, sq_rt, sq_exc, sq_bk, sq_ct, t_bl, nam_d, nam_l, namAll_nil, namAll_cons, List.getElem?_cons_zero, List.getElem?_cons_succ, List.set_cons_zero, List.set_cons_succ, setTg_nm, List.length_cons, List.length_nil, Nat.reduceAdd, Nat.reduceLeDiff, Nat.zero_add, if_true, if_false, Bool.not_true, Bool.not_false, call_cfg, glob_cfg, e1, n_add, e2, e3, c1, q1', c2, q2], nx.name q2, nx.ok, q1, d⟩
def b_sn2 : Ss := (.cons (.ex (.meth "extend" (.var 3) (.cons (.comp (.bin .Add (.var 8) (.var 4)) (.nm 8) (.seq (.call "_law_letters" .nil)) (.yes (.cmp .NotIn (.bin .Add (.var 8) (.var 4)) (.var 1)))) .nil))) .nil)
theorem m_extend {n : Nat} {ds es : List D} {h : AH} (e : h[n]? = some (.lst ds)) (hl : ds.length + es.length ≤ 1000000) : methT "extend" (.d (.ref n)) [.l es] h = .ok (.d .non) (h.set n (.lst (ds ++ es))) := by
  have : methT "extend" (.d (.ref n)) [.l es] h = mExtend (.d (.ref n)) (.l es) h := by kernel_rfl
  rw [this]; unfold mExtend
  simp only [e, viewM]
  rw [if_pos (by rw [sizeLine_eq]; omega)]
theorem recv_ext {n : Nat} {ds : List D} {h : AH} (e : h[n]? = some (.lst ds)) : recvOk "extend" (.d (.ref n)) h = true := by
  unfold recvOk
  simp only [e]; decide +kernel
theorem let_len : LET.cps.toList.length = 26 := by kernel_rfl
theorem sn2_turn {wf k j m : Nat} {h : AH} {ds acc : List D} {e : Str} {x2 x5 x6 : Option D} (hm : h[m]? = some (.lst ds)) (hd : ∀ y ∈ ds, nmB y = true) (he : e.length ≤ 10) (ha : acc.length ≤ 1000) :
    evSs (cfg Pg wf (k + 1)) wf b_sn2 [some (.ref j), some (.ref m), x2, some (.ref h.length), some (.str e), x5, x6, none, none] (h ++ [.lst acc]) = .nx [some (.ref j), some (.ref m), x2, some (.ref h.length), some (.str e), x5, x6, none, none] (h ++ [.lst (acc ++ ((cand e).filter (nin ds)).map D.str)]) := by
  have hml : m < h.length := (List.getElem?_eq_some_iff.mp hm).1
  have hm2 : (h ++ [Cell.lst acc])[m]? = some (.lst ds) := by rw [List.getElem?_append_left hml]; exact hm
  let f : D → Option D := fun d => match d with | .str c => if nin ds (c ++ e) then some (.str (c ++ e)) else none | _ => none
  have cf := comp_fix (C := cfg Pg wf (k + 1)) (ρ := [some (.ref j), some (.ref m), x2, some (.ref h.length), some (.str e), x5, x6, none, none]) (h := h ++ [.lst acc]) (elt := .bin .Add (.var 8) (.var 4)) (tg := .nm 8) (c := .yes (.cmp .NotIn (.bin .Add (.var 8) (.var 4)) (.var 1))) (f := f) (s := strSrc LET) (LET.cps.toList.map sgn) (fun i _ => rfl) rfl rfl (by rw [List.length_map, let_len]; decide) (fun d hd2 => by
    obtain ⟨c, _, rfl⟩ := List.mem_map.mp hd2
    have ad := n_adds (x := one c) (y := e) (h := h ++ [.lst acc]) (by
      have : (one c).length = 1 := rfl
      omega)
    have ci := c_ninr (x := one c ++ e) hm2 hd
    have ff : f (sgn c) = if nin ds (one c ++ e) then some (.str (one c ++ e)) else none := rfl
    have sg : sgn c = .str (one c) := rfl
    rw [kStep_a setTg_nm, ff, sg]
    cases q : nin ds (one c ++ e) with
    | true =>
      have q' : (!ds.any fun y => eqF y (.str (one c ++ e))) = true := q
      simp -implicitDefEqProofs only [q_cons, q_nil, q_ite, kIte_a, kTw_t, kTw_f, q_set, kSet_a, kSo_a, q_setIx, kX1_a, kX2_a, kX3_a, kXo_a, q_ret, kRet_a, q_ex, kEx_a, q_raise, kRaise_a, q_ife, kIfe_a, kTe_t, kTe_f, q_and, kAnd_a, kAo_t, kAo_f, q_or, kOr_a, kOo_t, kOo_f, q_not, kNot_a, kNo_a, q_var, kVo_a, q_glob, kGo_a, q_int, q_bl, q_non, q_str, q_bin, kBin_a, kBin2_a, q_cmp, kCmp_a, kCmp2_a, q_ix, kIx_a, kIx2_a, q_neg, kNg_a, q_tup, kTup_b, q_lst, kLst_b, q_call, kCall_a, q_bi, kBi_a, q_isin, kIs_b, kIsO_a, q_consE, q_nilE, kEs_a, kEs2_a, q_chn, kC2_a, kC3_a, kC4_t, kC4_f, q_noC, q_yesC, kTr_a, kTb_a, kSome_a, kSt_t, kSt_f, q_comp, q_seq, kSeq_a, kSo2_a, q_for, kFor_a, q_rng1, kRng_a, q_enum, kEnum_a, q_fstr, kFs_a, q_consF, q_nilF, kF_a, q_fmt, kFm_a, kFmO_a, q_meth, kMe_a, kMe_b, kMe2_a, q_sl, kSl_a, kSl2_a, kSl3_a, q_rev, kRev_a, q_heard, kHd_ok, kHd_exc, q_par, kPa_a, kPa2_a, q_clr, q_noO, q_yesO, kOi_a, q_retN, q_pass, q_brk, q_cnt, R.bind_ok, R.out_ok, R.bind_exc, R.out_exc, sq_nx, sq_rt, sq_exc, sq_bk, sq_ct, t_bl, nam_d, nam_l, namAll_nil, namAll_cons, List.getElem?_cons_zero, List.getElem?_cons_succ, List.set_cons_zero, List.set_cons_succ, setTg_nm, List.length_cons, List.length_nil, Nat.reduceAdd, Nat.reduceLeDiff, Nat.zero_add, if_true, if_false, Bool.not_true, Bool.not_false, call_cfg, glob_cfg, ad, ci, q']
    | false =>
      have q' : (!ds.any fun y => eqF y (.str (one c ++ e))) = false := q
      simp -implicitDefEqProofs only [q_cons, q_nil, q_ite, kIte_a, kTw_t, kTw_f, q_set, kSet_a, kSo_a, q_setIx, kX1_a, kX2_a, kX3_a, kXo_a, q_ret, kRet_a, q_ex, kEx_a, q_raise, kRaise_a, q_ife, kIfe_a, kTe_t, kTe_f, q_and, kAnd_a, kAo_t, kAo_f, q_or, kOr_a, kOo_t, kOo_f, q_not, kNot_a, kNo_a, q_var, kVo_a, q_glob, kGo_a, q_int, q_bl, q_non, q_str, q_bin, kBin_a, kBin2_a, q_cmp, kCmp_a, kCmp2_a, q_ix, kIx_a, kIx2_a, q_neg, kNg_a, q_tup, kTup_b, q_lst, kLst_b, q_call, kCall_a, q_bi, kBi_a, q_isin, kIs_b, kIsO_a, q_consE, q_nilE, kEs_a, kEs2_a, q_chn, kC2_a, kC3_a, kC4_t, kC4_f, q_noC, q_yesC, kTr_a, kTb_a, kSome_a, kSt_t, kSt_f, q_comp, q_seq, kSeq_a, kSo2_a, q_for, kFor_a, q_rng1, kRng_a, q_enum, kEnum_a, q_fstr, kFs_a, q_consF, q_nilF, kF_a, q_fmt, kFm_a, kFmO_a, q_meth, kMe_a, kMe_b, kMe2_a, q_sl, kSl_a, kSl2_a, kSl3_a, q_rev, kRev_a, q_heard, kHd_ok, kHd_exc, q_par, kPa_a, kPa2_a, q_clr, q_noO, q_yesO, kOi_a, q_retN, q_pass, q_brk, q_cnt, R.bind_ok, R.out_ok, R.bind_exc, R.out_exc, sq_nx, sq_rt, sq_exc, sq_bk, sq_ct, t_bl, nam_d, nam_l, namAll_nil, namAll_cons, List.getElem?_cons_zero, List.getElem?_cons_succ, List.set_cons_zero, List.set_cons_succ, setTg_nm, List.length_cons, List.length_nil, Nat.reduceAdd, Nat.reduceLeDiff, Nat.zero_add, if_true, if_false, Bool.not_true, Bool.not_false, call_cfg, glob_cfg, ad, ci, q', Bool.false_eq_true])
  have fm : (LET.cps.toList.map sgn).filterMap f = ((cand e).filter (nin ds)).map D.str := by
    unfold cand
    generalize LET.cps.toList = l
    induction l with
    | nil => rfl
    | cons c l ih =>
      have ff : f (sgn c) = if nin ds (one c ++ e) then some (.str (one c ++ e)) else none := rfl
      rw [List.map_cons, List.filterMap_cons, ff, List.map_cons, List.filter_cons]
      cases nin ds (one c ++ e)
      · simpa using ih
      · simpa using ih
  rw [fm] at cf
  have cl : ((cand e).filter (nin ds)).length ≤ 26 := by
    have := List.length_filter_le (nin ds) (cand e)
    unfold cand at this ⊢
    rw [List.length_map, let_len] at this
    exact this
  have lt : ∀ h, callF Pg wf (k + 1) "_law_letters" [] h = .ok (.d (.str LET)) h := fun h => letters_ok
  have mx := m_extend (n := h.length) (ds := acc) (es := ((cand e).filter (nin ds)).map D.str) (h := h ++ [.lst acc]) hat0 (by rw [List.length_map]; omega)
  simp -implicitDefEqProofs only [b_sn2, q_cons, q_nil, q_ite, kIte_a, kTw_t, kTw_f, q_set, kSet_a, kSo_a, q_setIx, kX1_a, kX2_a, kX3_a, kXo_a, q_ret, kRet_a, q_ex, kEx_a, q_raise, kRaise_a, q_ife, kIfe_a, kTe_t, kTe_f, q_and, kAnd_a, kAo_t, kAo_f, q_or, kOr_a, kOo_t, kOo_f, q_not, kNot_a, kNo_a, q_var, kVo_a, q_glob, kGo_a, q_int, q_bl, q_non, q_str, q_bin, kBin_a, kBin2_a, q_cmp, kCmp_a, kCmp2_a, q_ix, kIx_a, kIx2_a, q_neg, kNg_a, q_tup, kTup_b, q_lst, kLst_b, q_call, kCall_a, q_bi, kBi_a, q_isin, kIs_b, kIsO_a, q_consE, q_nilE, kEs_a, kEs2_a, q_chn, kC2_a, kC3_a, kC4_t, kC4_f, q_noC, q_yesC, kTr_a, kTb_a, kSome_a, kSt_t, kSt_f, q_comp, q_seq, kSeq_a, kSo2_a, q_for, kFor_a, q_rng1, kRng_a, q_enum, kEnum_a, q_fstr, kFs_a, q_consF, q_nilF, kF_a, q_fmt, kFm_a, kFmO_a, q_meth, kMe_a, kMe_b, kMe2_a, q_sl, kSl_a, kSl2_a, kSl3_a, q_rev, kRev_a, q_heard, kHd_ok, kHd_exc, q_par, kPa_a, kPa2_a, q_clr, q_noO, q_yesO, kOi_a, q_retN, q_pass, q_brk, q_cnt, R.bind_ok, R.out_ok, R.bind_exc, R.out_exc, sq_nx, sq_rt, sq_exc, sq_bk, sq_ct, t_bl, nam_d, nam_l, namAll_nil, namAll_cons, List.getElem?_cons_zero, List.getElem?_cons_succ, List.set_cons_zero, List.set_cons_succ, setTg_nm, List.length_cons, List.length_nil, Nat.reduceAdd, Nat.reduceLeDiff, Nat.zero_add, if_true, if_false, Bool.not_true, Bool.not_false, call_cfg, glob_cfg, lt, src_str, cf, recv_ext hat0, mx, hset0]
theorem rng20 : (-(2 ^ 62) ≤ (20 : Int) ∧ (20 : Int) < 2 ^ 62) = True := by simp
theorem some_name_ok {wf k j m : Nat} {h : AH} {ds : List D} (J : Jar h j) (cl : Cl h) (hm : h[m]? = some (.lst ds)) (hmj : m ≠ j) (hd : ∀ y ∈ ds, nmB y = true) (hl : ds.length < 78) :
    ∃ x h', callF Pg wf (k + 3) "_law_some_name" [.d (.ref j), .d (.ref m)] h = .ok (.d (.str x)) h' ∧ nameB x = true ∧ PyData.strOk x = true ∧ nin ds x = true ∧ Drawn h h' j := by
  have L := forL_inv (s := rng1S 20) (step := kBody (cfg Pg wf (k + 2)) wf (.nm 2) b_sn1) (n := 20)
    (fun i ρ h1 => Drawn h h1 j ∧ ∃ x2 x5 x6, ρ = [some (.ref j), some (.ref m), x2, none, none, x5, x6, none, none])
    (fun o => (∃ x h1, o = .rt (.d (.str x)) h1 ∧ nameB x = true ∧ PyData.strOk x = true ∧ nin ds x = true ∧ Drawn h h1 j) ∨ ∃ x2 x5 x6 h1, o = .nx [some (.ref j), some (.ref m), x2, none, none, x5, x6, none, none] h1 ∧ Drawn h h1 j)
    (fun i ρ h1 hi hI => by
      obtain ⟨d1, x2, x5, x6, rfl⟩ := hI
      refine ⟨.int (0 + (i : Nat)), rfl, ?_⟩
      rw [kBody_a setTg_nm]
      rcases sn1_turn (wf := wf) (k := k) (x2 := some (.int (0 + (i : Nat)))) (x5 := x5) (x6 := x6) d1.1 (d1.cl cl) (by rw [d1.at hmj]; exact hm) hmj hd with ⟨x, h2, e, g1, g2, g3, d2⟩ | ⟨x5', x6', h2, e, d2⟩
      · exact .inr ⟨_, h2, e, .inl ⟨x, h2, rfl, g1, g2, g3, d1.trans d2⟩⟩
      · exact .inl ⟨_, h2, e, d1.trans d2, _, _, _, rfl⟩)
    (fun ρ h1 hI => by
      obtain ⟨d1, x2, x5, x6, rfl⟩ := hI
      exact ⟨rfl, .inr ⟨_, _, _, h1, rfl, d1⟩⟩) 20 0 [some (.ref j), some (.ref m), none, none, none, none, none, none, none] h (by omega) ⟨Drawn.refl J, _, _, _, rfl⟩
  have L2 : (rng1S 20).len = 20 := rfl
  generalize hL : forL (rng1S 20) (kBody (cfg Pg wf (k + 2)) wf (.nm 2) b_sn1) 20 0 [some (.ref j), some (.ref m), none, none, none, none, none, none, none] h = o at L
  simp only [b_sn1, e_name] at hL
  rcases L with ⟨x, h1, rfl, g1, g2, g3, d1⟩ | ⟨x2, x5, x6, h1, rfl, d1⟩
  · refine ⟨x, h1, call_rt (ds := [.ref j, .ref m]) fn_law_some_name rfl ?_ d1.len, g1, g2, g3, d1⟩
    show evSs (cfg Pg wf (k + 2)) wf b_law_some_name [some (.ref j), some (.ref m), none, none, none, none, none, none, none] h = _
    simp -implicitDefEqProofs only [b_law_some_name, q_cons, q_nil, q_ite, kIte_a, kTw_t, kTw_f, q_set, kSet_a, kSo_a, q_setIx, kX1_a, kX2_a, kX3_a, kXo_a, q_ret, kRet_a, q_ex, kEx_a, q_raise, kRaise_a, q_ife, kIfe_a, kTe_t, kTe_f, q_and, kAnd_a, kAo_t, kAo_f, q_or, kOr_a, kOo_t, kOo_f, q_not, kNot_a, kNo_a, q_var, kVo_a, q_glob, kGo_a, q_int, q_bl, q_non, q_str, q_bin, kBin_a, kBin2_a, q_cmp, kCmp_a, kCmp2_a, q_ix, kIx_a, kIx2_a, q_neg, kNg_a, q_tup, kTup_b, q_lst, kLst_b, q_call, kCall_a, q_bi, kBi_a, q_isin, kIs_b, kIsO_a, q_consE, q_nilE, kEs_a, kEs2_a, q_chn, kC2_a, kC3_a, kC4_t, kC4_f, q_noC, q_yesC, kTr_a, kTb_a, kSome_a, kSt_t, kSt_f, q_comp, q_seq, kSeq_a, kSo2_a, q_for, kFor_a, q_rng1, kRng_a, q_enum, kEnum_a, q_fstr, kFs_a, q_consF, q_nilF, kF_a, q_fmt, kFm_a, kFmO_a, q_meth, kMe_a, kMe_b, kMe2_a, q_sl, kSl_a, kSl2_a, kSl3_a, q_rev, kRev_a, q_heard, kHd_ok, kHd_exc, q_par, kPa_a, kPa2_a, q_clr, q_noO, q_yesO, kOi_a, q_retN, q_pass, q_brk, q_cnt, R.bind_ok, R.out_ok, R.bind_exc, R.out_exc, sq_nx, sq_rt, sq_exc, sq_bk, sq_ct, t_bl, nam_d, nam_l, namAll_nil, namAll_cons, List.getElem?_cons_zero, List.getElem?_cons_succ, List.set_cons_zero, List.set_cons_succ, setTg_nm, List.length_cons, List.length_nil, Nat.reduceAdd, Nat.reduceLeDiff, Nat.zero_add, if_true, if_false, Bool.not_true, Bool.not_false, call_cfg, glob_cfg, kRng_a rng20, L2, hL]
  · obtain ⟨x, l, ex⟩ := cands_left hd hl
    have hm1 : h1[m]? = some (.lst ds) := by rw [d1.at hmj]; exact hm
    have hx : x ∈ cands.filter (nin ds) := by rw [ex]; exact List.mem_cons_self
    obtain ⟨hx1, hx2⟩ := List.mem_filter.mp hx
    have hx3 := List.all_eq_true.mp cands_ok x hx1
    simp only [Bool.and_eq_true] at hx3
    refine ⟨x, h1, call_cut (ds := [.ref j, .ref m]) (h1 := h1) (e := [.lst ((cands.filter (nin ds)).map D.str)]) fn_law_some_name rfl ?_ d1.len (d1.cl cl) (by simp [below]), hx3.1, hx3.2, hx2, d1⟩
    show evSs (cfg Pg wf (k + 2)) wf b_law_some_name [some (.ref j), some (.ref m), none, none, none, none, none, none, none] h = _
    have cl26 : ∀ e, (((cand e).filter (nin ds)).map D.str).length ≤ 26 := fun e => by
      have := List.length_filter_le (nin ds) (cand e)
      unfold cand at this ⊢
      rw [List.length_map, let_len] at this
      rw [List.length_map]; exact this
    have t1 := sn2_turn (wf := wf) (k := k + 1) (j := j) (e := "x") (acc := []) (x2 := x2) (x5 := x5) (x6 := x6) hm1 hd (by decide +kernel) (by simp)
    have t2 := sn2_turn (wf := wf) (k := k + 1) (j := j) (e := "xy") (acc := [] ++ ((cand "x").filter (nin ds)).map D.str) (x2 := x2) (x5 := x5) (x6 := x6) hm1 hd (by decide +kernel) (by have := cl26 "x"; rw [List.nil_append]; omega)
    have t3 := sn2_turn (wf := wf) (k := k + 1) (j := j) (e := "xyz") (acc := [] ++ ((cand "x").filter (nin ds)).map D.str ++ ((cand "xy").filter (nin ds)).map D.str) (x2 := x2) (x5 := x5) (x6 := x6) hm1 hd (by decide +kernel) (by have := cl26 "x"; have := cl26 "xy"; rw [List.nil_append, List.length_append]; omega)
    have ea : [] ++ ((cand "x").filter (nin ds)).map D.str ++ ((cand "xy").filter (nin ds)).map D.str ++ ((cand "xyz").filter (nin ds)).map D.str = (cands.filter (nin ds)).map D.str := by
      unfold cands
      simp
    rw [ea] at t3
    have i0 := i_l0 (h := h1 ++ [.lst ((cands.filter (nin ds)).map D.str)]) (x := .str x) hat0 (by rw [ex]; rfl)
    simp only [b_sn2] at t1 t2 t3
    simp -implicitDefEqProofs only [b_law_some_name, q_cons, q_nil, q_ite, kIte_a, kTw_t, kTw_f, q_set, kSet_a, kSo_a, q_setIx, kX1_a, kX2_a, kX3_a, kXo_a, q_ret, kRet_a, q_ex, kEx_a, q_raise, kRaise_a, q_ife, kIfe_a, kTe_t, kTe_f, q_and, kAnd_a, kAo_t, kAo_f, q_or, kOr_a, kOo_t, kOo_f, q_not, kNot_a, kNo_a, q_var, kVo_a, q_glob, kGo_a, q_int, q_bl, q_non, q_str, q_bin, kBin_a, kBin2_a, q_cmp, kCmp_a, kCmp2_a, q_ix, kIx_a, kIx2_a, q_neg, kNg_a, q_tup, kTup_b, q_lst, kLst_b, q_call, kCall_a, q_bi, kBi_a, q_isin, kIs_b, kIsO_a, q_consE, q_nilE, kEs_a, kEs2_a, q_chn, kC2_a, kC3_a, kC4_t, kC4_f, q_noC, q_yesC, kTr_a, kTb_a, kSome_a, kSt_t, kSt_f, q_comp, q_seq, kSeq_a, kSo2_a, q_for, kFor_a, q_rng1, kRng_a, q_enum, kEnum_a, q_fstr, kFs_a, q_consF, q_nilF, kF_a, q_fmt, kFm_a, kFmO_a, q_meth, kMe_a, kMe_b, kMe2_a, q_sl, kSl_a, kSl2_a, kSl3_a, q_rev, kRev_a, q_heard, kHd_ok, kHd_exc, q_par, kPa_a, kPa2_a, q_clr, q_noO, q_yesO, kOi_a, q_retN, q_pass, q_brk, q_cnt, R.bind_ok, R.out_ok, R.bind_exc, R.out_exc, sq_nx, sq_rt, sq_exc, sq_bk, sq_ct, t_bl, nam_d, nam_l, namAll_nil, namAll_cons, List.getElem?_cons_zero, List.getElem?_cons_succ, List.set_cons_zero, List.set_cons_succ, setTg_nm, List.length_cons, List.length_nil, Nat.reduceAdd, Nat.reduceLeDiff, Nat.zero_add, if_true, if_false, Bool.not_true, Bool.not_false, call_cfg, glob_cfg, kRng_a rng20, L2, hL]
    simp -implicitDefEqProofs only [q_cons, q_nil, q_ite, kIte_a, kTw_t, kTw_f, q_set, kSet_a, kSo_a, q_setIx, kX1_a, kX2_a, kX3_a, kXo_a, q_ret, kRet_a, q_ex, kEx_a, q_raise, kRaise_a, q_ife, kIfe_a, kTe_t, kTe_f, q_and, kAnd_a, kAo_t, kAo_f, q_or, kOr_a, kOo_t, kOo_f, q_not, kNot_a, kNo_a, q_var, kVo_a, q_glob, kGo_a, q_int, q_bl, q_non, q_str, q_bin, kBin_a, kBin2_a, q_cmp, kCmp_a, kCmp2_a, q_ix, kIx_a, kIx2_a, q_neg, kNg_a, q_tup, kTup_b, q_lst, kLst_b, q_call, kCall_a, q_bi, kBi_a, q_isin, kIs_b, kIsO_a, q_consE, q_nilE, kEs_a, kEs2_a, q_chn, kC2_a, kC3_a, kC4_t, kC4_f, q_noC, q_yesC, kTr_a, kTb_a, kSome_a, kSt_t, kSt_f, q_comp, q_seq, kSeq_a, kSo2_a, q_for, kFor_a, q_rng1, kRng_a, q_enum, kEnum_a, q_fstr, kFs_a, q_consF, q_nilF, kF_a, q_fmt, kFm_a, kFmO_a, q_meth, kMe_a, kMe_b, kMe2_a, q_sl, kSl_a, kSl2_a, kSl3_a, q_rev, kRev_a, q_heard, kHd_ok, kHd_exc, q_par, kPa_a, kPa2_a, q_clr, q_noO, q_yesO, kOi_a, q_retN, q_pass, q_brk, q_cnt, R.bind_ok, R.out_ok, R.bind_exc, R.out_exc, sq_nx, sq_rt, sq_exc, sq_bk, sq_ct, t_bl, nam_d, nam_l, namAll_nil, namAll_cons, List.getElem?_cons_zero, List.getElem?_cons_succ, List.set_cons_zero, List.set_cons_succ, setTg_nm, List.length_cons, List.length_nil, Nat.reduceAdd, Nat.reduceLeDiff, Nat.zero_add, if_true, if_false, Bool.not_true, Bool.not_false, call_cfg, glob_cfg, fl_succ, kFg_a, kFl_nx, kFl_ct, kFl_bk, kFl_rt, kFl_exc, fl_zero, kBody_e, kBo_a, fix_len, fix_get, fix_fin, src_tu, src_ll, t1, t2, t3, i0]
def b_sns : Ss := (.cons (.ex (.meth "append" (.var 2) (.cons (.call "_law_some_name" (.cons (.var 0) (.cons (.var 2) .nil))) .nil))) .nil)
theorem some_names_ok {wf k j n : Nat} {h : AH} (J : Jar h j) (cl : Cl h) (hn : n ≤ 60) :
    ∃ ds h', callF Pg wf (k + 4) "_law_some_names" [.d (.ref j), .d (.int n)] h = .ok (.d (.tup ds)) h' ∧ Good ds ∧ ds.length = n ∧ Drawn h h' j := by
  have L := forL_inv (s := rng1S (n : Int)) (step := kBody (cfg Pg wf (k + 3)) wf (.nm 3) b_sns) (n := n)
    (fun i ρ h1 => ∃ ds h2 x3, h1 = h2 ++ [.lst ds] ∧ Drawn h h2 j ∧ Good ds ∧ ds.length = i ∧ ρ = [some (.ref j), some (.int n), some (.ref h.length), x3])
    (fun o => ∃ ds h2 x3, o = .nx [some (.ref j), some (.int n), some (.ref h.length), x3] (h2 ++ [.lst ds]) ∧ Drawn h h2 j ∧ Good ds ∧ ds.length = n)
    (fun i ρ h1 hi hI => by
      obtain ⟨ds, h2, x3, rfl, d2, g, e, rfl⟩ := hI
      refine ⟨.int (0 + (i : Nat)), rfl, .inl ?_⟩
      rw [kBody_a setTg_nm]
      have hl := d2.len
      have hj := d2.1.lt
      have hb : belows h2.length ds = true := belows_pl g.pl
      have hat : (h2 ++ [Cell.lst ds])[h.length]? = some (.lst ds) := by rw [← hl]; exact hat0
      obtain ⟨x, h3, e3, g1, g2, g3, d3⟩ := some_name_ok (wf := wf) (k := k) (d2.1.push (e := [.lst ds])) ((d2.cl cl).push hb) hat (by omega) g.names (by omega)
      obtain ⟨h4, rfl, d4⟩ := d3.push hj
      have hat4 : (h4 ++ [Cell.lst ds])[h.length]? = some (.lst ds) := by rw [← hl, ← d4.len]; exact hat0
      have st : (h4 ++ [Cell.lst ds]).set h.length (.lst (ds ++ [.str x])) = h4 ++ [.lst (ds ++ [.str x])] := by rw [← hl, ← d4.len]; exact hset0
      have ap := m_append (x := .str x) hat4 (by omega)
      rw [st] at ap
      exact ⟨[some (.ref j), some (.int n), some (.ref h.length), some (.int (0 + (i : Nat)))], _, by simp -implicitDefEqProofs only [b_sns, q_cons, q_nil, q_ite, kIte_a, kTw_t, kTw_f, q_set, kSet_a, kSo_a, q_setIx, kX1_a, kX2_a, kX3_a, kXo_a, q_ret, kRet_a, q_ex, kEx_a, q_raise, kRaise_a, q_ife, kIfe_a, kTe_t, kTe_f, q_and, kAnd_a, kAo_t, kAo_f, q_or, kOr_a, kOo_t, kOo_f, q_not, kNot_a, kNo_a, q_var, kVo_a, q_glob, kGo_a, q_int, q_bl, q_non, q_str, q_bin, kBin_a, kBin2_a, q_cmp, kCmp_a, kCmp2_a, q_ix, kIx_a, kIx2_a, q_neg, kNg_a, q_tup, kTup_b, q_lst, kLst_b, q_call, kCall_a, q_bi, kBi_a, q_isin, kIs_b, kIsO_a, q_consE, q_nilE, kEs_a, kEs2_a, q_chn, kC2_a, kC3_a, kC4_t, kC4_f, q_noC, q_yesC, kTr_a, kTb_a, kSome_a, kSt_t, kSt_f, q_comp, q_seq, kSeq_a, kSo2_a, q_for, kFor_a, q_rng1, kRng_a, q_enum, kEnum_a, q_fstr, kFs_a, q_consF, q_nilF, kF_a, q_fmt, kFm_a, kFmO_a, q_meth, kMe_a, kMe_b, kMe2_a, q_sl, kSl_a, kSl2_a, kSl3_a, q_rev, kRev_a, q_heard, kHd_ok, kHd_exc, q_par, kPa_a, kPa2_a, q_clr, q_noO, q_yesO, kOi_a, q_retN, q_pass, q_brk, q_cnt, R.bind_ok, R.out_ok, R.bind_exc, R.out_exc, sq_nx, sq_rt, sq_exc, sq_bk, sq_ct, t_bl, nam_d, nam_l, namAll_nil, namAll_cons, List.getElem?_cons_zero, List.getElem?_cons_succ, List.set_cons_zero, List.set_cons_succ, setTg_nm, List.length_cons, List.length_nil, Nat.reduceAdd, Nat.reduceLeDiff, Nat.zero_add, if_true, if_false, Bool.not_true, Bool.not_false, call_cfg, glob_cfg, recv_app hat, e3, ap], ds ++ [.str x], h4, _, rfl, d2.trans d4, g.snoc g1 g2 g3, by rw [List.length_append, e]; rfl, rfl⟩)
    (fun ρ h1 hI => by
      obtain ⟨ds, h2, x3, rfl, d2, g, e, rfl⟩ := hI
      exact ⟨rfl, ds, h2, x3, rfl, d2, g, e⟩) n 0 [some (.ref j), some (.int n), some (.ref h.length), none] (h ++ [.lst []]) (by omega) ⟨[], h, none, rfl, Drawn.refl J, ⟨by simp [plDs], fun i hi => by simp at hi⟩, rfl, rfl⟩
  obtain ⟨ds, h2, x3, eL, d2, g, e⟩ := L
  have ln : (rng1S (n : Int)).len = n := Int.toNat_natCast _
  simp only [b_sns] at eL
  have hat : (h2 ++ [Cell.lst ds])[h.length]? = some (.lst ds) := by rw [← d2.len]; exact hat0
  refine ⟨ds, h2, call_cut (ds := [.ref j, .int n]) (h1 := h2) (e := [.lst ds]) fn_law_some_names rfl ?_ d2.len (d2.cl cl) (below_pl (by unfold plD; exact g.pl)), g, e, d2⟩
  show evSs (cfg Pg wf (k + 3)) wf b_law_some_names [some (.ref j), some (.int n), none, none] h = _
  simp -implicitDefEqProofs only [b_law_some_names, q_cons, q_nil, q_ite, kIte_a, kTw_t, kTw_f, q_set, kSet_a, kSo_a, q_setIx, kX1_a, kX2_a, kX3_a, kXo_a, q_ret, kRet_a, q_ex, kEx_a, q_raise, kRaise_a, q_ife, kIfe_a, kTe_t, kTe_f, q_and, kAnd_a, kAo_t, kAo_f, q_or, kOr_a, kOo_t, kOo_f, q_not, kNot_a, kNo_a, q_var, kVo_a, q_glob, kGo_a, q_int, q_bl, q_non, q_str, q_bin, kBin_a, kBin2_a, q_cmp, kCmp_a, kCmp2_a, q_ix, kIx_a, kIx2_a, q_neg, kNg_a, q_tup, kTup_b, q_lst, kLst_b, q_call, kCall_a, q_bi, kBi_a, q_isin, kIs_b, kIsO_a, q_consE, q_nilE, kEs_a, kEs2_a, q_chn, kC2_a, kC3_a, kC4_t, kC4_f, q_noC, q_yesC, kTr_a, kTb_a, kSome_a, kSt_t, kSt_f, q_comp, q_seq, kSeq_a, kSo2_a, q_for, kFor_a, q_rng1, kRng_a, q_enum, kEnum_a, q_fstr, kFs_a, q_consF, q_nilF, kF_a, q_fmt, kFm_a, kFmO_a, q_meth, kMe_a, kMe_b, kMe2_a, q_sl, kSl_a, kSl2_a, kSl3_a, q_rev, kRev_a, q_heard, kHd_ok, kHd_exc, q_par, kPa_a, kPa2_a, q_clr, q_noO, q_yesO, kOi_a, q_retN, q_pass, q_brk, q_cnt, R.bind_ok, R.out_ok, R.bind_exc, R.out_exc, sq_nx, sq_rt, sq_exc, sq_bk, sq_ct, t_bl, nam_d, nam_l, namAll_nil, namAll_cons, List.getElem?_cons_zero, List.getElem?_cons_succ, List.set_cons_zero, List.set_cons_succ, setTg_nm, List.length_cons, List.length_nil, Nat.reduceAdd, Nat.reduceLeDiff, Nat.zero_add, if_true, if_false, Bool.not_true, Bool.not_false, call_cfg, glob_cfg, kRng_a (rng_ok (n := n) (by omega)), ln, eL, b_tuple hat]
end K33

set_option Elab.async false
set_option linter.all false
set_option maxRecDepth 100000
set_option maxHeartbeats 4000000
/-! Pure15: bent names, runs. -/
namespace K33
open PySem Mill HeadK
/-- plain, no longer tuple than 1000 -/
def Pl (x : D) : Prop := plD x = true ∧ ∀ ds, x = .tup ds → ds.length ≤ 1000
/-- what is handed on -/
def TmOk (t : Tm) : Prop := (∃ x, t = .d x ∧ Pl x) ∨ ∃ ds, t = .l ds ∧ plDs ds = true
theorem plDs_app {xs ys : List D} (h1 : plDs xs = true) (h2 : plDs ys = true) : plDs (xs ++ ys) = true := plDs_of fun d hd => by
  rcases List.mem_append.mp hd with hd | hd
  · exact plDs_mem h1 hd
  · exact plDs_mem h2 hd
theorem cut_mem {α : Type} {xs : List α} {lo hi : Option Int} {x : α} (h : x ∈ cutL xs lo hi) : x ∈ xs := List.mem_of_mem_drop (List.mem_of_mem_take h)
theorem cut_pl {xs : List D} {lo hi : Option Int} (h : plDs xs = true) : plDs (cutL xs lo hi) = true := plDs_of fun d hd => plDs_mem h (cut_mem hd)
theorem cut_len {α : Type} {xs : List α} {lo hi : Option Int} : (cutL xs lo hi).length ≤ xs.length := by
  unfold cutL
  rw [List.length_take, List.length_drop]; omega
theorem sl_tup {xs : List D} {lo hi : Option Int} {h : AH} : slT (.d (.tup xs)) lo hi h = .ok (.d (.tup (cutL xs lo hi))) h := rfl
theorem n_addt {xs ys : List D} {h : AH} (e : xs.length + ys.length ≤ 1000) : binT .Add (.d (.tup xs)) (.d (.tup ys)) h = .ok (.d (.tup (xs ++ ys))) h := by
  show (if xs.length + ys.length ≤ sizeLine then R.ok (Tm.d (.tup (xs ++ ys))) h else R.err) = _
  rw [if_pos (by rw [sizeLine_eq]; omega)]
theorem Pl_tup {xs : List D} (h : plDs xs = true) (hl : xs.length ≤ 1000) : Pl (.tup xs) := ⟨by unfold plD; exact h, fun ds e => by cases e; exact hl⟩
theorem Pl_of {x : D} (h : plD x = true) (hn : ∀ ds, x ≠ .tup ds) : Pl x := ⟨h, fun ds e => absurd e (hn ds)⟩
theorem b_list {xs : List D} {h : AH} : biT "list" [.d (.tup xs)] h = .ok (.l xs) h := by
  have : biT "list" [.d (.tup xs)] h = biList [.d (.tup xs)] h := by kernel_rfl
  rw [this]; rfl
/-! ### runs -/
def b_top : Ss := (.cons (.ret (.bi "tuple" (.cons (.comp (.call "_law_one" (.cons (.var 0) (.cons (.lst (.cons (.int 0) (.cons (.call "_law_take" (.cons (.var 0) (.cons (.var 3) .nil))) (.cons (.bin .Sub (.var 3) (.int 1)) .nil)))) .nil))) (.nm 4) (.rng1 (.var 1)) .no) .nil))) .nil)
theorem run_tail {wf k j n : Nat} {h : AH} {f top : Int} (J : Jar h j) (cl : Cl h) (hn : n ≤ 60) (t1 : 1 ≤ top) (t2 : top.natAbs.log2 < 9000) :
    ∃ xs h', evSs (cfg Pg wf (k + 2)) wf b_top [some (.ref j), some (.int n), some (.int f), some (.int top), none] h = .rt (.d (.tup xs)) h' ∧ plDs xs = true ∧ xs.length = n ∧ Drawn h h' j := by
  obtain ⟨ds, h', q1, q2, q3, q4⟩ := compL_inv (s := rng1S (n : Int)) (step := kStep (cfg Pg wf (k + 2)) (.call "_law_one" (.cons (.var 0) (.cons (.lst (.cons (.int 0) (.cons (.call "_law_take" (.cons (.var 0) (.cons (.var 3) .nil))) (.cons (.bin .Sub (.var 3) (.int 1)) .nil)))) .nil))) (.nm 4) .no [some (.ref j), some (.int n), some (.int f), some (.int top), none]) (n := n) (fun h' => Drawn h h' j) (fun y => plD y = true)
    (fun i h1 hi hI => by
      obtain ⟨r, h2, e1, r0, r1, d1⟩ := take_ok (wf := wf) (k := k + 1) (top := top) hI.1 t1 t2
      obtain ⟨z, h3, e2, zm, d2⟩ := one_ok (wf := wf) (k := k) (ds := [.int 0, .int r, .int (top - 1)]) d1.1 (d1.cl (hI.cl cl)) (by simp [belows, below]) (by simp) (by simp)
      refine ⟨.int (0 + (i : Nat)), z, h3, rfl, ?_, ?_, (hI.trans d1).trans d2⟩
      · rw [kStep_a setTg_nm]
        simp -implicitDefEqProofs only [q_cons, q_nil, q_ite, kIte_a, kTw_t, kTw_f, q_set, kSet_a, kSo_a, q_setIx, kX1_a, kX2_a, kX3_a, kXo_a, q_ret, kRet_a, q_ex, kEx_a, q_raise, kRaise_a, q_ife, kIfe_a, kTe_t, kTe_f, q_and, kAnd_a, kAo_t, kAo_f, q_or, kOr_a, kOo_t, kOo_f, q_not, kNot_a, kNo_a, q_var, kVo_a, q_glob, kGo_a, q_int, q_bl, q_non, q_str, q_bin, kBin_a, kBin2_a, q_cmp, kCmp_a, kCmp2_a, q_ix, kIx_a, kIx2_a, q_neg, kNg_a, q_tup, kTup_b, q_lst, kLst_b, q_call, kCall_a, q_bi, kBi_a, q_isin, kIs_b, kIsO_a, q_consE, q_nilE, kEs_a, kEs2_a, q_chn, kC2_a, kC3_a, kC4_t, kC4_f, q_noC, q_yesC, kTr_a, kTb_a, kSome_a, kSt_t, kSt_f, q_comp, q_seq, kSeq_a, kSo2_a, q_for, kFor_a, q_rng1, kRng_a, q_enum, kEnum_a, q_fstr, kFs_a, q_consF, q_nilF, kF_a, q_fmt, kFm_a, kFmO_a, q_meth, kMe_a, kMe_b, kMe2_a, q_sl, kSl_a, kSl2_a, kSl3_a, q_rev, kRev_a, q_heard, kHd_ok, kHd_exc, q_par, kPa_a, kPa2_a, q_clr, q_noO, q_yesO, kOi_a, q_retN, q_pass, q_brk, q_cnt, R.bind_ok, R.out_ok, R.bind_exc, R.out_exc, sq_nx, sq_rt, sq_exc, sq_bk, sq_ct, t_bl, nam_d, nam_l, namAll_nil, namAll_cons, List.getElem?_cons_zero, List.getElem?_cons_succ, List.set_cons_zero, List.set_cons_succ, setTg_nm, List.length_cons, List.length_nil, Nat.reduceAdd, Nat.reduceLeDiff, Nat.zero_add, if_true, if_false, Bool.not_true, Bool.not_false, call_cfg, glob_cfg, e1, n_sub, e2]
      · simp only [List.mem_cons, List.not_mem_nil, or_false] at zm
        rcases zm with rfl | rfl | rfl <;> rfl) (fun h1 _ => rfl) n 0 [] h (by omega) (by rw [sizeLine_eq]; simp; omega) (Drawn.refl J) (fun y hy => by cases hy)
  have ln : (rng1S (n : Int)).len = n := Int.toNat_natCast _
  have kc : kComp (cfg Pg wf (k + 2)) (.call "_law_one" (.cons (.var 0) (.cons (.lst (.cons (.int 0) (.cons (.call "_law_take" (.cons (.var 0) (.cons (.var 3) .nil))) (.cons (.bin .Sub (.var 3) (.int 1)) .nil)))) .nil))) (.nm 4) .no [some (.ref j), some (.int n), some (.int f), some (.int top), none] (rng1S (n : Int)) h = .ok (.l ds) h' := by
    unfold kComp
    rw [ln]; exact q1
  exact ⟨ds, h', by simp -implicitDefEqProofs only [b_top, q_cons, q_nil, q_ite, kIte_a, kTw_t, kTw_f, q_set, kSet_a, kSo_a, q_setIx, kX1_a, kX2_a, kX3_a, kXo_a, q_ret, kRet_a, q_ex, kEx_a, q_raise, kRaise_a, q_ife, kIfe_a, kTe_t, kTe_f, q_and, kAnd_a, kAo_t, kAo_f, q_or, kOr_a, kOo_t, kOo_f, q_not, kNot_a, kNo_a, q_var, kVo_a, q_glob, kGo_a, q_int, q_bl, q_non, q_str, q_bin, kBin_a, kBin2_a, q_cmp, kCmp_a, kCmp2_a, q_ix, kIx_a, kIx2_a, q_neg, kNg_a, q_tup, kTup_b, q_lst, kLst_b, q_call, kCall_a, q_bi, kBi_a, q_isin, kIs_b, kIsO_a, q_consE, q_nilE, kEs_a, kEs2_a, q_chn, kC2_a, kC3_a, kC4_t, kC4_f, q_noC, q_yesC, kTr_a, kTb_a, kSome_a, kSt_t, kSt_f, q_comp, q_seq, kSeq_a, kSo2_a, q_for, kFor_a, q_rng1, kRng_a, q_enum, kEnum_a, q_fstr, kFs_a, q_consF, q_nilF, kF_a, q_fmt, kFm_a, kFmO_a, q_meth, kMe_a, kMe_b, kMe2_a, q_sl, kSl_a, kSl2_a, kSl3_a, q_rev, kRev_a, q_heard, kHd_ok, kHd_exc, q_par, kPa_a, kPa2_a, q_clr, q_noO, q_yesO, kOi_a, q_retN, q_pass, q_brk, q_cnt, R.bind_ok, R.out_ok, R.bind_exc, R.out_exc, sq_nx, sq_rt, sq_exc, sq_bk, sq_ct, t_bl, nam_d, nam_l, namAll_nil, namAll_cons, List.getElem?_cons_zero, List.getElem?_cons_succ, List.set_cons_zero, List.set_cons_succ, setTg_nm, List.length_cons, List.length_nil, Nat.reduceAdd, Nat.reduceLeDiff, Nat.zero_add, if_true, if_false, Bool.not_true, Bool.not_false, call_cfg, glob_cfg, kRng_a (rng_ok (n := n) (by omega)), kc, b_tuplel], plDs_of q3, by simpa using q2, q4⟩
theorem some_run_ok {wf k j n : Nat} {h : AH} (J : Jar h j) (cl : Cl h) (hn : n ≤ 60) :
    ∃ xs h', callF Pg wf (k + 3) "_law_some_run" [.d (.ref j), .d (.int n)] h = .ok (.d (.tup xs)) h' ∧ plDs xs = true ∧ xs.length = n ∧ Drawn h h' j := by
  obtain ⟨f, h1, e1, f0, f1, d1⟩ := take_ok (wf := wf) (k := k + 1) (top := 4) J (by decide) (by decide +kernel)
  have fin : ∀ top : Int, 1 ≤ top → top.natAbs.log2 < 9000 → evSs (cfg Pg wf (k + 2)) wf b_law_some_run [some (.ref j), some (.int n), none, none, none] h = evSs (cfg Pg wf (k + 2)) wf b_top [some (.ref j), some (.int n), some (.int f), some (.int top), none] h1 → ∃ xs h', callF Pg wf (k + 3) "_law_some_run" [.d (.ref j), .d (.int n)] h = .ok (.d (.tup xs)) h' ∧ plDs xs = true ∧ xs.length = n ∧ Drawn h h' j := fun top t1 t2 e => by
    obtain ⟨xs, h2, e2, p1, p2, d2⟩ := run_tail (wf := wf) (k := k) (f := f) d1.1 (d1.cl cl) hn t1 t2
    exact ⟨xs, h2, call_rt (ds := [.ref j, .int n]) fn_law_some_run rfl (e.trans e2) (d1.trans d2).len, p1, p2, d1.trans d2⟩
  by_cases h2 : f < 2
  · refine fin 10 (by decide) (by decide +kernel) ?_
    simp -implicitDefEqProofs only [b_law_some_run, b_top, q_cons, q_set, q_call, q_consE, q_nilE, q_var, q_int, List.getElem?_cons_zero, List.getElem?_cons_succ, List.set_cons_zero, List.set_cons_succ, kVo_a, R.bind_ok, kEs_a, kEs2_a, kCall_a, call_cfg, e1, R.out_ok, kSet_a, nam_d, setTg_nm, kSo_a, sq_nx, q_ife, q_cmp, kCmp_a, kCmp2_a, c_lt, decide_eq_true h2, kIfe_a, t_bl, kTe_t]
  · cases h3 : f == 2 with
    | true =>
      refine fin (10 ^ 6) (by decide) (by decide +kernel) ?_
      simp -implicitDefEqProofs only [b_law_some_run, b_top, q_cons, q_set, q_call, q_consE, q_nilE, q_var, q_int, List.getElem?_cons_zero, List.getElem?_cons_succ, List.set_cons_zero, List.set_cons_succ, kVo_a, R.bind_ok, kEs_a, kEs2_a, kCall_a, call_cfg, e1, R.out_ok, kSet_a, nam_d, setTg_nm, kSo_a, sq_nx, q_ife, q_cmp, kCmp_a, kCmp2_a, c_lt, decide_eq_false h2, kIfe_a, t_bl, kTe_f, c_eqi, h3, kTe_t, q_bin, kBin_a, kBin2_a, n_pow6]
    | false =>
      refine fin (10 ^ 20) (by decide) (by decide +kernel) ?_
      simp -implicitDefEqProofs only [b_law_some_run, b_top, q_cons, q_set, q_call, q_consE, q_nilE, q_var, q_int, List.getElem?_cons_zero, List.getElem?_cons_succ, List.set_cons_zero, List.set_cons_succ, kVo_a, R.bind_ok, kEs_a, kEs2_a, kCall_a, call_cfg, e1, R.out_ok, kSet_a, nam_d, setTg_nm, kSo_a, sq_nx, q_ife, q_cmp, kCmp_a, kCmp2_a, c_lt, decide_eq_false h2, kIfe_a, t_bl, kTe_f, c_eqi, h3, kTe_t, q_bin, kBin_a, kBin2_a, n_pow20]
theorem near_run_ok {wf k j : Nat} {h : AH} {xs : List D} (J : Jar h j) (cl : Cl h) (hp : plDs xs = true) (hn : xs.length ≤ 60) :
    ∃ ys h', callF Pg wf (k + 3) "_law_near_run" [.d (.ref j), .d (.tup xs)] h = .ok (.d (.tup ys)) h' ∧ plDs ys = true ∧ ys.length = xs.length ∧ Drawn h h' j := by
  obtain ⟨ds, h', q1, q2, q3, q4⟩ := compL_inv (s := Src.fix xs) (step := kStep (cfg Pg wf (k + 2)) (.call "_law_one" (.cons (.var 0) (.cons (.lst (.cons (.var 2) (.cons (.var 2) (.cons (.var 2) (.cons (.int 0) (.cons (.call "_law_take" (.cons (.var 0) (.cons (.int 12) .nil))) .nil)))))) .nil))) (.nm 2) .no [some (.ref j), some (.tup xs), none]) (n := xs.length) (fun h' => Drawn h h' j) (fun y => plD y = true)
    (fun i h1 hi hI => by
      have px : plD xs[i] = true := plDs_mem hp (List.getElem_mem hi)
      obtain ⟨r, h2, e1, r0, r1, d1⟩ := take_ok (wf := wf) (k := k + 1) (top := 12) hI.1 (by decide) (by decide +kernel)
      have pl : plDs [xs[i], xs[i], xs[i], .int 0, .int r] = true := plDs_of fun d hd => by
        simp only [List.mem_cons, List.not_mem_nil, or_false] at hd
        rcases hd with rfl | rfl | rfl | rfl | rfl <;> first | exact px | rfl
      obtain ⟨z, h3, e2, zm, d2⟩ := one_ok (wf := wf) (k := k) (ds := [xs[i], xs[i], xs[i], .int 0, .int r]) d1.1 (d1.cl (hI.cl cl)) (belows_pl pl) (by simp) (by simp)
      refine ⟨xs[i], z, h3, List.getElem?_eq_getElem hi, ?_, plDs_mem pl zm, (hI.trans d1).trans d2⟩
      rw [kStep_a setTg_nm]
      simp -implicitDefEqProofs only [q_cons, q_nil, q_ite, kIte_a, kTw_t, kTw_f, q_set, kSet_a, kSo_a, q_setIx, kX1_a, kX2_a, kX3_a, kXo_a, q_ret, kRet_a, q_ex, kEx_a, q_raise, kRaise_a, q_ife, kIfe_a, kTe_t, kTe_f, q_and, kAnd_a, kAo_t, kAo_f, q_or, kOr_a, kOo_t, kOo_f, q_not, kNot_a, kNo_a, q_var, kVo_a, q_glob, kGo_a, q_int, q_bl, q_non, q_str, q_bin, kBin_a, kBin2_a, q_cmp, kCmp_a, kCmp2_a, q_ix, kIx_a, kIx2_a, q_neg, kNg_a, q_tup, kTup_b, q_lst, kLst_b, q_call, kCall_a, q_bi, kBi_a, q_isin, kIs_b, kIsO_a, q_consE, q_nilE, kEs_a, kEs2_a, q_chn, kC2_a, kC3_a, kC4_t, kC4_f, q_noC, q_yesC, kTr_a, kTb_a, kSome_a, kSt_t, kSt_f, q_comp, q_seq, kSeq_a, kSo2_a, q_for, kFor_a, q_rng1, kRng_a, q_enum, kEnum_a, q_fstr, kFs_a, q_consF, q_nilF, kF_a, q_fmt, kFm_a, kFmO_a, q_meth, kMe_a, kMe_b, kMe2_a, q_sl, kSl_a, kSl2_a, kSl3_a, q_rev, kRev_a, q_heard, kHd_ok, kHd_exc, q_par, kPa_a, kPa2_a, q_clr, q_noO, q_yesO, kOi_a, q_retN, q_pass, q_brk, q_cnt, R.bind_ok, R.out_ok, R.bind_exc, R.out_exc, sq_nx, sq_rt, sq_exc, sq_bk, sq_ct, t_bl, nam_d, nam_l, namAll_nil, namAll_cons, List.getElem?_cons_zero, List.getElem?_cons_succ, List.set_cons_zero, List.set_cons_succ, setTg_nm, List.length_cons, List.length_nil, Nat.reduceAdd, Nat.reduceLeDiff, Nat.zero_add, if_true, if_false, Bool.not_true, Bool.not_false, call_cfg, glob_cfg, e1, e2]) (fun h1 _ => rfl) xs.length 0 [] h (by omega) (by rw [sizeLine_eq]; simp; omega) (Drawn.refl J) (fun y hy => by cases hy)
  have kc : kComp (cfg Pg wf (k + 2)) (.call "_law_one" (.cons (.var 0) (.cons (.lst (.cons (.var 2) (.cons (.var 2) (.cons (.var 2) (.cons (.int 0) (.cons (.call "_law_take" (.cons (.var 0) (.cons (.int 12) .nil))) .nil)))))) .nil))) (.nm 2) .no [some (.ref j), some (.tup xs), none] (Src.fix xs) h = .ok (.l ds) h' := q1
  refine ⟨ds, h', call_rt (ds := [.ref j, .tup xs]) fn_law_near_run rfl ?_ q4.len, plDs_of q3, by simpa using q2, q4⟩
  show evSs (cfg Pg wf (k + 2)) wf b_law_near_run [some (.ref j), some (.tup xs), none] h = _
  simp -implicitDefEqProofs only [b_law_near_run, q_cons, q_nil, q_ite, kIte_a, kTw_t, kTw_f, q_set, kSet_a, kSo_a, q_setIx, kX1_a, kX2_a, kX3_a, kXo_a, q_ret, kRet_a, q_ex, kEx_a, q_raise, kRaise_a, q_ife, kIfe_a, kTe_t, kTe_f, q_and, kAnd_a, kAo_t, kAo_f, q_or, kOr_a, kOo_t, kOo_f, q_not, kNot_a, kNo_a, q_var, kVo_a, q_glob, kGo_a, q_int, q_bl, q_non, q_str, q_bin, kBin_a, kBin2_a, q_cmp, kCmp_a, kCmp2_a, q_ix, kIx_a, kIx2_a, q_neg, kNg_a, q_tup, kTup_b, q_lst, kLst_b, q_call, kCall_a, q_bi, kBi_a, q_isin, kIs_b, kIsO_a, q_consE, q_nilE, kEs_a, kEs2_a, q_chn, kC2_a, kC3_a, kC4_t, kC4_f, q_noC, q_yesC, kTr_a, kTb_a, kSome_a, kSt_t, kSt_f, q_comp, q_seq, kSeq_a, kSo2_a, q_for, kFor_a, q_rng1, kRng_a, q_enum, kEnum_a, q_fstr, kFs_a, q_consF, q_nilF, kF_a, q_fmt, kFm_a, kFmO_a, q_meth, kMe_a, kMe_b, kMe2_a, q_sl, kSl_a, kSl2_a, kSl3_a, q_rev, kRev_a, q_heard, kHd_ok, kHd_exc, q_par, kPa_a, kPa2_a, q_clr, q_noO, q_yesO, kOi_a, q_retN, q_pass, q_brk, q_cnt, R.bind_ok, R.out_ok, R.bind_exc, R.out_exc, sq_nx, sq_rt, sq_exc, sq_bk, sq_ct, t_bl, nam_d, nam_l, namAll_nil, namAll_cons, List.getElem?_cons_zero, List.getElem?_cons_succ, List.set_cons_zero, List.set_cons_succ, setTg_nm, List.length_cons, List.length_nil, Nat.reduceAdd, Nat.reduceLeDiff, Nat.zero_add, if_true, if_false, Bool.not_true, Bool.not_false, call_cfg, glob_cfg, src_tu, kc, b_tuplel]
end K33

set_option Elab.async false
set_option linter.all false
set_option maxRecDepth 100000
set_option maxHeartbeats 4000000
/-! Pure16: bent runs, bent names. -/
namespace K33
open PySem Mill HeadK
/-- a plain one, or the list that was made first -/
def Res (n : Nat) (cs : List D) (x : D) : Prop := Pl x ∨ (x = .ref n ∧ plDs cs = true)
theorem leave_ref {h1 e : AH} {n : Nat} {cs : List D} (hn : h1.length = n) (cl : Cl h1) (hp : plDs cs = true) : leave n (.d (.ref n)) (h1 ++ (.lst cs :: e)) = .ok (.l cs) h1 := by
  subst hn
  have c2 : h1.all (belowC h1.length) = true := cl
  unfold leave
  rw [List.take_left, if_pos c2]
  have e1 : (h1 ++ (Cell.lst cs :: e))[h1.length]? = some (.lst cs) := by simp
  simp only [Nat.lt_irrefl, if_false, e1, belows_pl hp, if_true]
theorem call_res {wf k : Nat} {f : Str} {fn : Fn} {ds : List D} {x : D} {cs : List D} {h h1 e : AH} (hf : Pg.fn f = some fn) (hl : ds.length = fn.ps) (ev : evSs (cfg Pg wf k) wf fn.body (ds.map some ++ List.replicate (fn.n - fn.ps) none) h = .rt (.d x) (h1 ++ (.lst cs :: e))) (hl1 : h1.length = h.length) (hc : Cl h1) (hx : Res h.length cs x) :
    ∃ t, callF Pg wf (k + 1) f (ds.map Tm.d) h = .ok t h1 ∧ TmOk t := by
  rw [call_at hf (by rw [List.length_map]; exact hl), namAll_d, ev]
  rcases hx with hx | ⟨rfl, hp⟩
  · exact ⟨.d x, leave_cut hl1 hc (below_pl hx.1), .inl ⟨x, rfl, hx⟩⟩
  · exact ⟨.l cs, leave_ref hl1 hc hp, .inr ⟨cs, rfl, hp⟩⟩
theorem Res.below {n m : Nat} {cs : List D} {x : D} (r : Res n cs x) (h : n < m) : below m x = true := by
  rcases r with r | ⟨rfl, _⟩
  · exact below_pl r.1
  · unfold Mill.below; exact decide_eq_true h
theorem belows_of {n : Nat} {ds : List D} (h : ∀ d ∈ ds, below n d = true) : belows n ds = true := by
  induction ds with
  | nil => simp [belows]
  | cons d ds ih =>
    unfold belows
    rw [Bool.and_eq_true]
    exact ⟨h _ List.mem_cons_self, ih fun d hd => h d (List.mem_cons_of_mem _ hd)⟩
theorem log_small {n : Nat} (h : n ≤ 1000) : ((n : Int)).natAbs.log2 < 9000 := by
  rw [Int.natAbs_natCast]
  by_cases hz : n = 0
  · rw [hz]; decide +kernel
  · rw [Nat.log2_lt hz]
    exact Nat.lt_of_le_of_lt h (by decide +kernel)
theorem bent_run_ok {wf k j : Nat} {h : AH} {xs : List D} (J : Jar h j) (cl : Cl h) (hp : plDs xs = true) (hn : xs.length ≤ 60) :
    ∃ t h', callF Pg wf (k + 3) "_law_bent_run" [.d (.ref j), .d (.tup xs)] h = .ok t h' ∧ TmOk t ∧ Drawn h h' j := by
  obtain ⟨r, h1, e1, r0, r1, d1⟩ := take_ok (wf := wf) (k := k + 1) (top := (xs.length : Int) + 1) J (by omega) (log_small (n := xs.length + 1) (by omega))
  have pl1 : plDs [.int (-1), .int (10 ^ 20), .bl true, .non, .str "0", .tup [.int 0], .int (10 ^ 30)] = true := by kernel_rfl
  have ql1 : ∀ d ∈ ([.int (-1), .int (10 ^ 20), .bl true, .non, .str "0", .tup [.int 0], .int (10 ^ 30)] : List D), Pl d := fun d hd => ⟨plDs_mem pl1 hd, fun ds e => by
    subst e
    simp only [List.mem_cons, List.not_mem_nil, or_false, reduceCtorEq, false_or, D.tup.injEq] at hd
    rw [hd]; simp⟩
  obtain ⟨odd, h2, e2, om, d2⟩ := one_ok (wf := wf) (k := k) (ds := [.int (-1), .int (10 ^ 20), .bl true, .non, .str "0", .tup [.int 0], .int (10 ^ 30)]) d1.1 (d1.cl cl) (belows_pl pl1) (by simp) (by simp)
  have po := ql1 _ om
  have d12 := d1.trans d2
  have po1 : plDs [odd] = true := plDs_of fun d hd => by rw [List.mem_singleton.mp hd]; exact po.1
  have l1 := cut_len (xs := xs) (lo := none) (hi := some r)
  have l2 := cut_len (xs := xs) (lo := some (r + 1)) (hi := none)
  have l3 := cut_len (xs := xs) (lo := none) (hi := some (-1))
  have p1 := cut_pl (lo := none) (hi := some r) hp
  have p2 := cut_pl (lo := some (r + 1)) (hi := none) hp
  have p3 := cut_pl (lo := none) (hi := some (-1)) hp
  generalize hc1 : cutL xs none (some r) = c1 at l1 p1
  generalize hc2 : cutL xs (some (r + 1)) none = c2 at l2 p2
  generalize hc3 : cutL xs none (some (-1)) = c3 at l3 p3
  have a1 := n_addt (xs := c1) (ys := [odd]) (h := h2) (by simp; omega)
  have a2 := n_addt (xs := c1 ++ [odd]) (ys := c2) (h := h2) (by simp; omega)
  have a3 := n_addt (xs := xs) (ys := [.int 0]) (h := h2) (by simp; omega)
  have a4 := n_addt (xs := c3) (ys := [odd]) (h := h2) (by simp; omega)
  let big : List D := [.tup (c1 ++ [odd] ++ c2), .tup (c1 ++ [odd] ++ c2), .tup (xs ++ [.int 0]), .ref h2.length, .non, .int 7, .tup (c3 ++ [odd])]
  have rb : ∀ d ∈ big, Res h2.length xs d := fun d hd => by
    simp only [big, List.mem_cons, List.not_mem_nil, or_false] at hd
    rcases hd with rfl | rfl | rfl | rfl | rfl | rfl | rfl
    · exact .inl (Pl_tup (plDs_app (plDs_app p1 po1) p2) (by simp; omega))
    · exact .inl (Pl_tup (plDs_app (plDs_app p1 po1) p2) (by simp; omega))
    · exact .inl (Pl_tup (plDs_app hp (by simp [plDs, plD])) (by simp; omega))
    · exact .inr ⟨rfl, hp⟩
    · exact .inl (Pl_of rfl fun ds e => by cases e)
    · exact .inl (Pl_of rfl fun ds e => by cases e)
    · exact .inl (Pl_tup (plDs_app p3 po1) (by simp; omega))
  obtain ⟨z, h3', e3, zm, d3a⟩ := one_ok (wf := wf) (k := k) (h := h2 ++ [.lst xs]) (ds := big) (d12.1.push (e := [.lst xs])) ((d12.cl cl).push (belows_pl hp)) (belows_of fun d hd => (rb d hd).below (by simp)) (by simp [big]) (by simp [big])
  obtain ⟨h3, rfl, d3⟩ := d3a.push d12.1.lt
  have d := d12.trans d3
  have rz := rb _ zm
  rw [d12.len] at rz
  simp only [big] at e3
  obtain ⟨t, et, tk⟩ := call_res (wf := wf) (k := k + 2) (ds := [.ref j, .tup xs]) (e := []) (cs := xs) fn_law_bent_run rfl (by
    show evSs (cfg Pg wf (k + 2)) wf b_law_bent_run [some (.ref j), some (.tup xs), none, none] h = .rt (.d z) (h3 ++ [.lst xs])
    simp -implicitDefEqProofs only [b_law_bent_run, q_cons, q_nil, q_ite, kIte_a, kTw_t, kTw_f, q_set, kSet_a, kSo_a, q_setIx, kX1_a, kX2_a, kX3_a, kXo_a, q_ret, kRet_a, q_ex, kEx_a, q_raise, kRaise_a, q_ife, kIfe_a, kTe_t, kTe_f, q_and, kAnd_a, kAo_t, kAo_f, q_or, kOr_a, kOo_t, kOo_f, q_not, kNot_a, kNo_a, q_var, kVo_a, q_glob, kGo_a, q_int, q_bl, q_non, q_str, q_bin, kBin_a, kBin2_a, q_cmp, kCmp_a, kCmp2_a, q_ix, kIx_a, kIx2_a, q_neg, kNg_a, q_tup, kTup_b, q_lst, kLst_b, q_call, kCall_a, q_bi, kBi_a, q_isin, kIs_b, kIsO_a, q_consE, q_nilE, kEs_a, kEs2_a, q_chn, kC2_a, kC3_a, kC4_t, kC4_f, q_noC, q_yesC, kTr_a, kTb_a, kSome_a, kSt_t, kSt_f, q_comp, q_seq, kSeq_a, kSo2_a, q_for, kFor_a, q_rng1, kRng_a, q_enum, kEnum_a, q_fstr, kFs_a, q_consF, q_nilF, kF_a, q_fmt, kFm_a, kFmO_a, q_meth, kMe_a, kMe_b, kMe2_a, q_sl, kSl_a, kSl2_a, kSl3_a, q_rev, kRev_a, q_heard, kHd_ok, kHd_exc, q_par, kPa_a, kPa2_a, q_clr, q_noO, q_yesO, kOi_a, q_retN, q_pass, q_brk, q_cnt, R.bind_ok, R.out_ok, R.bind_exc, R.out_exc, sq_nx, sq_rt, sq_exc, sq_bk, sq_ct, t_bl, nam_d, nam_l, namAll_nil, namAll_cons, List.getElem?_cons_zero, List.getElem?_cons_succ, List.set_cons_zero, List.set_cons_succ, setTg_nm, List.length_cons, List.length_nil, Nat.reduceAdd, Nat.reduceLeDiff, Nat.zero_add, if_true, if_false, Bool.not_true, Bool.not_false, call_cfg, glob_cfg, b_lent, n_add, e1, n_pow20, n_pow30, e2, sl_tup, hc1, hc2, hc3, a1, a2, a3, a4, b_list, e3]) d.len (d.cl cl) rz
  exact ⟨t, h3, et, tk, d⟩
theorem s13 {h : AH} : binT .Mult (.d (.str "a")) (.d (.int 13)) h = .ok (.d (.str "aaaaaaaaaaaaa")) h := by kernel_rfl
theorem n_mult {xs : List D} {i : Int} {h : AH} (h1 : 2 ≤ i) (h2 : i ≤ 1000) (h3 : xs.length ≤ 1000) (h4 : xs ≠ []) : binT .Mult (.d (.tup xs)) (.d (.int i)) h = .ok (.d (.tup (List.replicate i.toNat xs).flatten)) h := by
  show (if 2 ≤ i ∧ i ≤ 1000 ∧ xs.length ≤ 1000 ∧ xs ≠ [] then R.ok (Tm.d (.tup (List.replicate i.toNat xs).flatten)) h else R.err) = _
  rw [if_pos ⟨h1, h2, h3, h4⟩]
theorem flat_one {n : Nat} {x : D} : (List.replicate n [x]).flatten = List.replicate n x := by
  induction n with
  | zero => rfl
  | succ n ih => rw [List.replicate_succ, List.flatten_cons, ih, List.replicate_succ]; rfl
theorem pl_rep {n : Nat} {x : D} (hx : plD x = true) : plDs (List.replicate n x) = true := plDs_of fun d hd => by rw [List.eq_of_mem_replicate hd]; exact hx
theorem n_addl {n : Nat} {xs ys : List D} {h : AH} (e : h[n]? = some (.lst xs)) (hl : xs.length + ys.length ≤ 1000) : binT .Add (.d (.ref n)) (.l ys) h = .ok (.l (xs ++ ys)) h := by
  show (match viewM (.d (.ref n)) h, viewM (.l ys) h with
    | some xs, some ys => if xs.length + ys.length ≤ sizeLine then R.ok (Tm.l (xs ++ ys)) h else .err
    | _, _ => .err) = _
  simp only [viewM, e]
  rw [if_pos (by rw [sizeLine_eq]; omega)]
theorem rev_tup {xs : List D} {h : AH} : revT (.d (.tup xs)) h = .ok (.d (.tup xs.reverse)) h := rfl
def b_bn2 : Ss := (.cons (.set (.nm 4) (.lst (.cons (.bin .Add (.bin .Add (.sl (.var 1) .no (.yes (.var 2))) (.tup (.cons (.var 3) .nil))) (.sl (.var 1) (.yes (.var 2)) .no)) (.cons (.bin .Add (.bin .Add (.sl (.var 1) .no (.yes (.var 2))) (.tup (.cons (.var 3) .nil))) (.sl (.var 1) (.yes (.var 2)) .no)) (.cons (.bin .Add (.bin .Add (.sl (.var 1) .no (.yes (.var 2))) (.tup (.cons (.var 3) .nil))) (.sl (.var 1) (.yes (.bin .Add (.var 2) (.int 1))) .no)) (.cons (.bi "list" (.cons (.var 1) .nil)) (.cons .non .nil))))))) (.cons (.ret (.call "_law_one" (.cons (.var 0) (.cons (.bin .Add (.var 4) (.lst (.cons (.str "names") (.cons (.bin .Add (.bin .Add (.var 1) (.sl (.var 1) .no (.yes (.int 1)))) (.tup (.cons (.str "none") .nil))) (.cons (.bin .Mult (.tup (.cons (.str "a") .nil)) (.int 61)) (.cons (.bin .Mult (.tup (.cons (.int 0) .nil)) (.bin .Add (.int 61) (.call "_law_take" (.cons (.var 0) (.cons (.int 5) .nil))))) (.cons (.rev (.var 1)) (.cons (.sl (.var 1) (.yes (.int 1)) .no) .nil)))))))) .nil)))) .nil))
theorem bent_tail {wf k j : Nat} {h : AH} {cs : List D} {r : Int} {odd : D} (J : Jar h j) (cl : Cl h) (hp : plDs cs = true) (hn : cs.length ≤ 60) (po : Pl odd) :
    ∃ z h', evSs (cfg Pg wf (k + 2)) wf b_bn2 [some (.ref j), some (.tup cs), some (.int r), some odd, none] h = .rt (.d z) (h' ++ (.lst cs :: [.lst [.tup (cutL cs none (some r) ++ [odd] ++ cutL cs (some r) none), .tup (cutL cs none (some r) ++ [odd] ++ cutL cs (some r) none), .tup (cutL cs none (some r) ++ [odd] ++ cutL cs (some (r + 1)) none), .ref h.length, .non]])) ∧ Res h.length cs z ∧ Drawn h h' j := by
  have po1 : plDs [odd] = true := plDs_of fun d hd => by rw [List.mem_singleton.mp hd]; exact po.1
  have l1 := cut_len (xs := cs) (lo := none) (hi := some r)
  have l2 := cut_len (xs := cs) (lo := some (r + 1)) (hi := none)
  have l4 := cut_len (xs := cs) (lo := some r) (hi := none)
  have l5 := cut_len (xs := cs) (lo := none) (hi := some 1)
  have l6 := cut_len (xs := cs) (lo := some 1) (hi := none)
  have p1 := cut_pl (lo := none) (hi := some r) hp
  have p2 := cut_pl (lo := some (r + 1)) (hi := none) hp
  have p4 := cut_pl (lo := some r) (hi := none) hp
  have p5 := cut_pl (lo := none) (hi := some 1) hp
  have p6 := cut_pl (lo := some 1) (hi := none) hp
  generalize hc1 : cutL cs none (some r) = c1 at l1 p1
  generalize hc2 : cutL cs (some (r + 1)) none = c2 at l2 p2
  generalize hc4 : cutL cs (some r) none = c4 at l4 p4
  generalize hc5 : cutL cs none (some 1) = c5 at l5 p5
  generalize hc6 : cutL cs (some 1) none = c6 at l6 p6
  have a1 := fun h => n_addt (xs := c1) (ys := [odd]) (h := h) (by simp; omega)
  have a2 := fun h => n_addt (xs := c1 ++ [odd]) (ys := c2) (h := h) (by simp; omega)
  have a3 := fun h => n_addt (xs := c1 ++ [odd]) (ys := c4) (h := h) (by simp; omega)
  have a4 := fun h => n_addt (xs := cs) (ys := c5) (h := h) (by omega)
  have a5 := fun h => n_addt (xs := cs ++ c5) (ys := [.str "none"]) (h := h) (by simp; omega)
  let s1 : List D := [.tup (c1 ++ [odd] ++ c4), .tup (c1 ++ [odd] ++ c4), .tup (c1 ++ [odd] ++ c2), .ref h.length, .non]
  have r1 : ∀ d ∈ s1, Res h.length cs d := fun d hd => by
    simp only [s1, List.mem_cons, List.not_mem_nil, or_false] at hd
    rcases hd with rfl | rfl | rfl | rfl | rfl
    · exact .inl (Pl_tup (plDs_app (plDs_app p1 po1) p4) (by simp; omega))
    · exact .inl (Pl_tup (plDs_app (plDs_app p1 po1) p4) (by simp; omega))
    · exact .inl (Pl_tup (plDs_app (plDs_app p1 po1) p2) (by simp; omega))
    · exact .inr ⟨rfl, hp⟩
    · exact .inl (Pl_of rfl fun ds e => by cases e)
  have cl1 := cl.push (belows_pl hp)
  have cl2 := cl1.push (ds := s1) (belows_of fun d hd => (r1 d hd).below (by simp))
  have J2 := (J.push (e := [.lst cs])).push (e := [.lst s1])
  obtain ⟨q, g1, e1, q0, q1, d1a⟩ := take_ok (wf := wf) (k := k + 1) (top := 5) J2 (by decide) (by decide +kernel)
  obtain ⟨g2, rfl, d1b⟩ := d1a.push (by have := J.lt; simp; omega)
  obtain ⟨g3, rfl, d1⟩ := d1b.push J.lt
  have gl := d1.len
  let s2 : List D := [.str "names", .tup (cs ++ c5 ++ [.str "none"]), .tup (List.replicate 61 (.str "a")), .tup (List.replicate (61 + q).toNat (.int 0)), .tup cs.reverse, .tup c6]
  have r2 : ∀ d ∈ s2, Res h.length cs d := fun d hd => by
    simp only [s2, List.mem_cons, List.not_mem_nil, or_false] at hd
    rcases hd with rfl | rfl | rfl | rfl | rfl | rfl
    · exact .inl (Pl_of (by decide +kernel) fun ds e => by cases e)
    · exact .inl (Pl_tup (plDs_app (plDs_app hp p5) (by decide +kernel)) (by simp; omega))
    · exact .inl (Pl_tup (pl_rep (by decide +kernel)) (by simp))
    · exact .inl (Pl_tup (pl_rep rfl) (by simp; omega))
    · exact .inl (Pl_tup (plDs_of fun d hd => plDs_mem hp (List.mem_reverse.mp hd)) (by simp; omega))
    · exact .inl (Pl_tup p6 (by omega))
  have rr : ∀ d ∈ s1 ++ s2, Res h.length cs d := fun d hd => by
    rcases List.mem_append.mp hd with hd | hd
    · exact r1 d hd
    · exact r2 d hd
  have cl3 := ((d1.cl cl).push (ds := cs) (belows_pl hp)).push (ds := s1) (belows_of fun d hd => (r1 d hd).below (by simp; omega))
  obtain ⟨z, g4, e4, zm, d4a⟩ := one_ok (wf := wf) (k := k) (h := g3 ++ [.lst cs] ++ [.lst s1]) (ds := s1 ++ s2) ((d1.1.push (e := [.lst cs])).push (e := [.lst s1])) cl3 (belows_of fun d hd => (rr d hd).below (by simp; omega)) (by simp [s1]) (by simp [s1, s2])
  obtain ⟨g5, rfl, d4b⟩ := d4a.push (by have := d1.1.lt; simp; omega)
  obtain ⟨g6, rfl, d4⟩ := d4b.push d1.1.lt
  refine ⟨z, g6, ?_, rr _ zm, d1.trans d4⟩
  have hat : (g3 ++ [Cell.lst cs] ++ [Cell.lst s1])[(h ++ [Cell.lst cs]).length]? = some (.lst s1) := by
    have : (h ++ [Cell.lst cs]).length = (g3 ++ [Cell.lst cs]).length := by simp [gl]
    rw [this]; exact hat0
  have ad := n_addl (ys := s2) hat (by simp [s1, s2])
  have m1 := fun h => n_mult (xs := [.str "a"]) (i := 61) (h := h) (by decide) (by decide) (by simp) (by simp)
  have m2 := fun h => n_mult (xs := [.int 0]) (i := 61 + q) (h := h) (by omega) (by omega) (by simp) (by simp)
  simp only [flat_one] at m1 m2
  have t61 : (61 : Int).toNat = 61 := rfl
  rw [t61] at m1
  simp only [s1, s2] at e1 e4 ad
  simp -implicitDefEqProofs only [b_bn2, q_cons, q_nil, q_ite, kIte_a, kTw_t, kTw_f, q_set, kSet_a, kSo_a, q_setIx, kX1_a, kX2_a, kX3_a, kXo_a, q_ret, kRet_a, q_ex, kEx_a, q_raise, kRaise_a, q_ife, kIfe_a, kTe_t, kTe_f, q_and, kAnd_a, kAo_t, kAo_f, q_or, kOr_a, kOo_t, kOo_f, q_not, kNot_a, kNo_a, q_var, kVo_a, q_glob, kGo_a, q_int, q_bl, q_non, q_str, q_bin, kBin_a, kBin2_a, q_cmp, kCmp_a, kCmp2_a, q_ix, kIx_a, kIx2_a, q_neg, kNg_a, q_tup, kTup_b, q_lst, kLst_b, q_call, kCall_a, q_bi, kBi_a, q_isin, kIs_b, kIsO_a, q_consE, q_nilE, kEs_a, kEs2_a, q_chn, kC2_a, kC3_a, kC4_t, kC4_f, q_noC, q_yesC, kTr_a, kTb_a, kSome_a, kSt_t, kSt_f, q_comp, q_seq, kSeq_a, kSo2_a, q_for, kFor_a, q_rng1, kRng_a, q_enum, kEnum_a, q_fstr, kFs_a, q_consF, q_nilF, kF_a, q_fmt, kFm_a, kFmO_a, q_meth, kMe_a, kMe_b, kMe2_a, q_sl, kSl_a, kSl2_a, kSl3_a, q_rev, kRev_a, q_heard, kHd_ok, kHd_exc, q_par, kPa_a, kPa2_a, q_clr, q_noO, q_yesO, kOi_a, q_retN, q_pass, q_brk, q_cnt, R.bind_ok, R.out_ok, R.bind_exc, R.out_exc, sq_nx, sq_rt, sq_exc, sq_bk, sq_ct, t_bl, nam_d, nam_l, namAll_nil, namAll_cons, List.getElem?_cons_zero, List.getElem?_cons_succ, List.set_cons_zero, List.set_cons_succ, setTg_nm, List.length_cons, List.length_nil, Nat.reduceAdd, Nat.reduceLeDiff, Nat.zero_add, if_true, if_false, Bool.not_true, Bool.not_false, call_cfg, glob_cfg, sl_tup, hc1, hc2, hc4, hc5, hc6, a1, a2, a3, a4, a5, b_list, m1, e1, n_add, m2, rev_tup, ad, e4]
  simp only [List.append_assoc, List.singleton_append]
end K33

set_option Elab.async false
set_option linter.all false
set_option maxRecDepth 100000
set_option maxHeartbeats 4000000
/-! Pure17: bent names; called_right. -/
namespace K33
open PySem Mill HeadK
theorem flB_name {x : D} (hx : nmB x = true) (hp : plD x = true) : flB x = true := by
  obtain ⟨s, rfl⟩ := flat_str hx
  exact (plD_str hp).1
def oddL (c : D) : List D := [.str "", .str "none", .str "Dig", .str "a1", .str "a b", .str "aaaaaaaaaaaaa", .str "a-b", .int 0, .non, .bl true, .tup [.str "a"], .str "a\n", .str "A", c]
theorem odd_pl {c : Str} (hc : plD (.str c) = true) : ∀ d ∈ oddL (.str c), Pl d := fun d hd => by
  simp only [oddL, List.mem_cons, List.not_mem_nil, or_false] at hd
  rcases hd with rfl | rfl | rfl | rfl | rfl | rfl | rfl | rfl | rfl | rfl | rfl | rfl | rfl | rfl
  case inr.inr.inr.inr.inr.inr.inr.inr.inr.inr.inl => exact Pl_tup (by decide +kernel) (by simp)
  case inr.inr.inr.inr.inr.inr.inr.inr.inr.inr.inr.inr.inr => exact Pl_of hc fun ds e => by cases e
  all_goals exact Pl_of (by decide +kernel) fun ds e => by cases e
theorem bent_names_ok {wf k j : Nat} {h : AH} {cs : List D} (J : Jar h j) (cl : Cl h) (G : Good cs) (hn : cs.length ≤ 60) :
    ∃ t h', callF Pg wf (k + 3) "_law_bent_names" [.d (.ref j), .d (.tup cs)] h = .ok t h' ∧ TmOk t ∧ Drawn h h' j := by
  obtain ⟨r, h1, e1, r0, r1, d1⟩ := take_ok (wf := wf) (k := k + 1) (top := (cs.length : Int) + 1) J (by omega) (log_small (n := cs.length + 1) (by omega))
  have hf : ∀ d ∈ cs, flB d = true := fun d hd => flB_name (G.names d hd) (plDs_mem G.pl hd)
  have fin : ∀ c : Str, plD (.str c) = true → (∀ odd h2, callF Pg wf (k + 2) "_law_one" [.d (.ref j), .l (oddL (.str c))] h1 = .ok (.d odd) h2 → evSs (cfg Pg wf (k + 2)) wf b_law_bent_names [some (.ref j), some (.tup cs), none, none, none] h = evSs (cfg Pg wf (k + 2)) wf b_bn2 [some (.ref j), some (.tup cs), some (.int r), some odd, none] h2) →
      ∃ t h', callF Pg wf (k + 3) "_law_bent_names" [.d (.ref j), .d (.tup cs)] h = .ok t h' ∧ TmOk t ∧ Drawn h h' j := fun c hc e => by
    have op := odd_pl hc
    obtain ⟨odd, h2, e2, om, d2⟩ := one_ok (wf := wf) (k := k) (ds := oddL (.str c)) d1.1 (d1.cl cl) (belows_pl (plDs_of fun d hd => (op d hd).1)) (by simp [oddL]) (by simp [oddL])
    have d12 := d1.trans d2
    obtain ⟨z, h3, e3, rz, d3⟩ := bent_tail (wf := wf) (k := k) (r := r) (odd := odd) d12.1 (d12.cl cl) G.pl hn (op _ om)
    have d := d12.trans d3
    rw [d12.len] at rz
    obtain ⟨t, et, tk⟩ := call_res (wf := wf) (k := k + 2) (ds := [.ref j, .tup cs]) (cs := cs) fn_law_bent_names rfl ((e odd h2 e2).trans e3) d.len (d.cl cl) rz
    exact ⟨t, h3, et, tk, d⟩
  have ne := c_nunit (h := h1) hf
  cases cs with
  | nil =>
    refine fin "none" (by decide +kernel) fun odd h2 e2 => ?_
    simp only [oddL] at e2
    have ne : cmpR .NotEq (.d (.tup [])) (.d (.tup [])) h1 = .ok (.d (.bl false)) h1 := ne
    generalize hl : (([] : List D).length : Int) = n at e1
    have bl : biT "len" [.d (.tup [])] h = .ok (.d (.int n)) h := by rw [← hl]; exact b_lent
    simp -implicitDefEqProofs only [b_law_bent_names, q_cons, q_nil, q_ite, kIte_a, kTw_t, kTw_f, q_set, kSet_a, kSo_a, q_setIx, kX1_a, kX2_a, kX3_a, kXo_a, q_ret, kRet_a, q_ex, kEx_a, q_raise, kRaise_a, q_ife, kIfe_a, kTe_t, kTe_f, q_and, kAnd_a, kAo_t, kAo_f, q_or, kOr_a, kOo_t, kOo_f, q_not, kNot_a, kNo_a, q_var, kVo_a, q_glob, kGo_a, q_int, q_bl, q_non, q_str, q_bin, kBin_a, kBin2_a, q_cmp, kCmp_a, kCmp2_a, q_ix, kIx_a, kIx2_a, q_neg, kNg_a, q_tup, kTup_b, q_lst, kLst_b, q_call, kCall_a, q_bi, kBi_a, q_isin, kIs_b, kIsO_a, q_consE, q_nilE, kEs_a, kEs2_a, q_chn, kC2_a, kC3_a, kC4_t, kC4_f, q_noC, q_yesC, kTr_a, kTb_a, kSome_a, kSt_t, kSt_f, q_comp, q_seq, kSeq_a, kSo2_a, q_for, kFor_a, q_rng1, kRng_a, q_enum, kEnum_a, q_fstr, kFs_a, q_consF, q_nilF, kF_a, q_fmt, kFm_a, kFmO_a, q_meth, kMe_a, kMe_b, kMe2_a, q_sl, kSl_a, kSl2_a, kSl3_a, q_rev, kRev_a, q_heard, kHd_ok, kHd_exc, q_par, kPa_a, kPa2_a, q_clr, q_noO, q_yesO, kOi_a, q_retN, q_pass, q_brk, q_cnt, R.bind_ok, R.out_ok, R.bind_exc, R.out_exc, sq_nx, sq_rt, sq_exc, sq_bk, sq_ct, t_bl, nam_d, nam_l, namAll_nil, namAll_cons, List.getElem?_cons_zero, List.getElem?_cons_succ, List.set_cons_zero, List.set_cons_succ, setTg_nm, List.length_cons, List.length_nil, Nat.reduceAdd, Nat.reduceLeDiff, Nat.zero_add, if_true, if_false, Bool.not_true, Bool.not_false, call_cfg, glob_cfg, bl, n_add, e1, s13, ne, e2, b_bn2]
  | cons a l =>
    obtain ⟨c, rfl⟩ := flat_str (G.names a List.mem_cons_self)
    refine fin c (plDs_mem G.pl List.mem_cons_self) fun odd h2 e2 => ?_
    simp only [oddL] at e2
    have ne : cmpR .NotEq (.d (.tup (.str c :: l))) (.d (.tup [])) h1 = .ok (.d (.bl true)) h1 := ne
    generalize hl : ((D.str c :: l).length : Int) = n at e1
    have bl : biT "len" [.d (.tup (.str c :: l))] h = .ok (.d (.int n)) h := by rw [← hl]; exact b_lent
    simp -implicitDefEqProofs only [b_law_bent_names, q_cons, q_nil, q_ite, kIte_a, kTw_t, kTw_f, q_set, kSet_a, kSo_a, q_setIx, kX1_a, kX2_a, kX3_a, kXo_a, q_ret, kRet_a, q_ex, kEx_a, q_raise, kRaise_a, q_ife, kIfe_a, kTe_t, kTe_f, q_and, kAnd_a, kAo_t, kAo_f, q_or, kOr_a, kOo_t, kOo_f, q_not, kNot_a, kNo_a, q_var, kVo_a, q_glob, kGo_a, q_int, q_bl, q_non, q_str, q_bin, kBin_a, kBin2_a, q_cmp, kCmp_a, kCmp2_a, q_ix, kIx_a, kIx2_a, q_neg, kNg_a, q_tup, kTup_b, q_lst, kLst_b, q_call, kCall_a, q_bi, kBi_a, q_isin, kIs_b, kIsO_a, q_consE, q_nilE, kEs_a, kEs2_a, q_chn, kC2_a, kC3_a, kC4_t, kC4_f, q_noC, q_yesC, kTr_a, kTb_a, kSome_a, kSt_t, kSt_f, q_comp, q_seq, kSeq_a, kSo2_a, q_for, kFor_a, q_rng1, kRng_a, q_enum, kEnum_a, q_fstr, kFs_a, q_consF, q_nilF, kF_a, q_fmt, kFm_a, kFmO_a, q_meth, kMe_a, kMe_b, kMe2_a, q_sl, kSl_a, kSl2_a, kSl3_a, q_rev, kRev_a, q_heard, kHd_ok, kHd_exc, q_par, kPa_a, kPa2_a, q_clr, q_noO, q_yesO, kOi_a, q_retN, q_pass, q_brk, q_cnt, R.bind_ok, R.out_ok, R.bind_exc, R.out_exc, sq_nx, sq_rt, sq_exc, sq_bk, sq_ct, t_bl, nam_d, nam_l, namAll_nil, namAll_cons, List.getElem?_cons_zero, List.getElem?_cons_succ, List.set_cons_zero, List.set_cons_succ, setTg_nm, List.length_cons, List.length_nil, Nat.reduceAdd, Nat.reduceLeDiff, Nat.zero_add, if_true, if_false, Bool.not_true, Bool.not_false, call_cfg, glob_cfg, bl, n_add, e1, s13, ne, i_t0, e2, b_bn2]
/-! ### heaps that grow -/
def Grown (h h1 : AH) (j : Nat) : Prop := Cl h1 ∧ Jar h1 j ∧ ∃ a b e, h1 = h.set j (.lst [.int a, .int b]) ++ e
theorem Grown.len {h h1 : AH} {j : Nat} (g : Grown h h1 j) : h.length ≤ h1.length := by
  obtain ⟨_, _, a, b, e, rfl⟩ := g; simp
theorem Grown.refl {h : AH} {j : Nat} (c : Cl h) (J : Jar h j) : Grown h h j := by
  obtain ⟨_, a, b, e⟩ := Drawn.refl J
  exact ⟨c, J, a, b, [], by rw [List.append_nil]; exact e⟩
theorem Grown.draw {h h1 h2 : AH} {j : Nat} (g : Grown h h1 j) (hj : j < h.length) (d : Drawn h1 h2 j) : Grown h h2 j := by
  obtain ⟨c, J, a, b, e, rfl⟩ := g
  have cl := d.cl c
  obtain ⟨J2, a2, b2, rfl⟩ := d
  refine ⟨cl, J2, a2, b2, e, ?_⟩
  rw [List.set_append_left _ _ (by simpa using hj), List.set_set]
theorem Grown.push {h h1 : AH} {j : Nat} {ds : List D} (g : Grown h h1 j) (hb : belows h1.length ds = true) : Grown h (h1 ++ [.lst ds]) j := by
  obtain ⟨c, J, a, b, e, rfl⟩ := g
  exact ⟨c.push hb, J.push, a, b, e ++ [.lst ds], by rw [List.append_assoc]⟩
theorem Va.grow {h h1 : AH} {j : Nat} {x : D} (v : Va x h) (g : Grown h h1 j) : Va x h1 := by
  rcases v with v | ⟨n, ds, rfl, e⟩
  · exact .inl v
  · obtain ⟨_, _, a, b, e2, rfl⟩ := g
    have hn := (List.getElem?_eq_some_iff.mp e).1
    by_cases z : j = n
    · subst z
      exact .inr ⟨_, _, rfl, by rw [List.getElem?_append_left (by simpa using hn), List.getElem?_set_self hn]⟩
    · exact .inr ⟨_, _, rfl, by rw [List.getElem?_append_left (by simpa using hn), List.getElem?_set_ne z]; exact e⟩
theorem Va.below {h : AH} {x : D} (v : Va x h) : below h.length x = true := by
  rcases v with v | ⟨n, ds, rfl, e⟩
  · exact below_pl v
  · unfold Mill.below; exact decide_eq_true (List.getElem?_eq_some_iff.mp e).1
/-- a value of a call, by its name -/
structure Named (x : D) (h : AH) : Prop where
  va : Va x h
  len : ∀ ds, x = .tup ds → ds.length ≤ 1000
theorem Named.grow {h h1 : AH} {j : Nat} {x : D} (v : Named x h) (g : Grown h h1 j) : Named x h1 := ⟨v.va.grow g, v.len⟩
theorem nam_ok {h : AH} {j : Nat} {t : Tm} (tk : TmOk t) (c : Cl h) (J : Jar h j) : ∃ x h', nam t h = (x, h') ∧ Named x h' ∧ Grown h h' j := by
  rcases tk with ⟨x, rfl, p⟩ | ⟨ds, rfl, p⟩
  · exact ⟨x, h, rfl, ⟨.inl p.1, p.2⟩, Grown.refl c J⟩
  · exact ⟨_, _, rfl, ⟨.inr ⟨_, ds, rfl, hat0⟩, fun ds e => by cases e⟩, (Grown.refl c J).push (belows_pl p)⟩
theorem Grown.trans {h h1 h2 : AH} {j : Nat} (g : Grown h h1 j) (hj : j < h.length) (g2 : Grown h1 h2 j) : Grown h h2 j := by
  obtain ⟨c, J, a, b, e, rfl⟩ := g
  obtain ⟨c2, J2, a2, b2, e2, rfl⟩ := g2
  exact ⟨c2, J2, a2, b2, e ++ e2, by rw [List.set_append_left _ _ (by simpa using hj), List.set_set, List.append_assoc]⟩
theorem Named.pl {x : D} {h : AH} (p : plD x = true) (hl : ∀ ds, x = .tup ds → ds.length ≤ 1000) : Named x h := ⟨.inl p, hl⟩
/-! ### made_names and what is owed, the same -/
theorem lv2_told {cs : List D} (hp : plDs cs = true) (hn : ∀ x ∈ cs, nmB x = true) (hl : cs.length ≤ 1000) : lv 2 (.tup [.str "told", .tup cs]) := .inr ⟨_, rfl, by simp, fun x hx => by
  rcases List.mem_cons.mp hx with rfl | hx
  · exact .inl told_ok
  · rcases List.mem_cons.mp hx with rfl | hx
    · exact .inr ⟨_, rfl, hl, fun y hy => flB_name (hn y hy) (plDs_mem hp hy)⟩
    · cases hx⟩
theorem names_both {wf k : Nat} {x : D} {h : AH} (v : Named x h) (cl : Cl h) : ∃ X, lv 2 X ∧ kHd CS (callF Pg wf (k + 3) "made_names" [.d x] h) = .ok (.d X) h ∧ callF Pg wf (k + 3) "_law_names_owed" [.d x] h = .ok (.d X) h := by
  have MN : callF Pg wf (k + 3) "made_names" [.d x] h = namesR x h := made_names_ok v.va cl
  have NO : callF Pg wf (k + 3) "_law_names_owed" [.d x] h = .ok (.d (namesO x)) h := names_owed_ok v.va v.len
  rcases names_cases (c := x) (h := h) with ⟨cs, rfl, l60, hb, n1, n2⟩ | ⟨e, w, n1, n2, he⟩
  · have hp := v.va.pl_of (by intro n z; cases z)
    have hpd : plDs cs = true := by unfold plD at hp; exact hp
    exact ⟨_, lv2_told hpd (names_good hb) (by omega), by rw [MN, n1]; rfl, by rw [NO, n2]⟩
  · exact ⟨_, .inl (lv_exc (e := e) (w := w) (by rcases he with rfl | rfl <;> decide +kernel)), by rw [MN, n1]; exact kHd_exc (eq_true (by rcases he with rfl | rfl <;> decide +kernel)), by rw [NO, n2]⟩
theorem made_good {wf k : Nat} {cs : List D} {h : AH} (G : Good cs) (cl : Cl h) (hn : cs.length ≤ 60) : callF Pg wf (k + 3) "made_names" [.d (.tup cs)] h = .ok (.d (.tup cs)) h := by
  have MN : callF Pg wf (k + 3) "made_names" [.d (.tup cs)] h = namesR (.tup cs) h := made_names_ok (.inl (by unfold plD; exact G.pl)) cl
  rw [MN]
  unfold namesR
  have : ¬ 60 < cs.length := by omega
  simp only [this, if_false, G.none]
end K33

set_option Elab.async false
set_option linter.all false
set_option maxRecDepth 100000
set_option maxHeartbeats 4000000
/-! Pure18: called_right; the law. -/
namespace K33
open PySem Mill HeadK
def b_cr : Ss := (.cons (.set (.nm 3) (.call "_law_bent_names" (.cons (.var 0) (.cons (.var 1) .nil)))) (.cons (.ite (.not (.call "_law_same" (.cons (.heard ["BadNames", "TooMany", "BadRun"] (.call "made_names" (.cons (.var 3) .nil))) (.cons (.call "_law_names_owed" (.cons (.var 3) .nil)) .nil)))) (.cons (.ret (.bl false)) .nil) .nil) (.cons (.set (.nm 4) (.call "_law_some_run" (.cons (.var 0) (.cons (.bi "len" (.cons (.var 1) .nil)) .nil)))) (.cons (.set (.nm 5) (.call "_law_near_run" (.cons (.var 0) (.cons (.var 4) .nil)))) (.cons (.par 7 8 (.call "_law_bent_run" (.cons (.var 0) (.cons (.var 4) .nil))) (.call "_law_bent_run" (.cons (.var 0) (.cons (.var 5) .nil)))) (.cons (.set (.nm 6) (.lst (.cons (.tup (.cons (.var 4) (.cons (.var 5) .nil))) (.cons (.tup (.cons (.var 5) (.cons (.var 4) .nil))) (.cons (.tup (.cons (.var 4) (.cons (.var 4) .nil))) (.cons (.tup (.cons (.var 7) (.cons (.var 8) .nil))) (.cons (.tup (.cons (.var 4) (.cons (.var 8) .nil))) (.cons (.tup (.cons (.var 7) (.cons (.var 5) .nil))) (.cons (.tup (.cons (.var 5) (.cons (.var 7) .nil))) .nil))))))))) (.cons (.ite (.cmp .NotEq (.comp (.var 9) (.nm 9) (.seq (.var 6)) (.yes (.not (.call "_law_slip_right" (.cons (.var 1) (.cons (.ix (.var 9) (.int 0)) (.cons (.ix (.var 9) (.int 1)) .nil))))))) (.lst .nil)) (.cons (.ret (.bl false)) .nil) .nil) (.cons (.ite (.or (.not (.call "_law_slip_right" (.cons (.var 3) (.cons (.var 7) (.cons (.var 8) .nil))))) (.not (.call "_law_slip_right" (.cons (.var 3) (.cons (.var 4) (.cons (.var 5) .nil)))))) (.cons (.ret (.bl false)) .nil) .nil) .nil))))))))
def b_lw : Ss := (.cons (.set (.nm 2) (.call "_law_pool" (.cons (.var 0) (.cons (.var 1) .nil)))) (.cons (.ite (.not (.call "_law_called_right" (.cons (.var 2) (.cons (.call "_law_some_names" (.cons (.var 2) (.cons (.call "_law_take" (.cons (.var 2) (.cons (.int 11) .nil))) .nil))) .nil)))) (.cons (.ret (.bl false)) .nil) .nil) .nil))
theorem src_ref {n : Nat} {ds : List D} {h : AH} (e : h[n]? = some (.lst ds)) : srcT (.d (.ref n)) h = some ⟨ds.length, fun h i => (cellAt n h)[i]?, fun h => decide ((cellAt n h).length = ds.length)⟩ := by
  unfold srcT
  simp only [e]
theorem pairs_comp {wf k n : Nat} {h : AH} {cs ps : List D} {x0 x2 x3 x4 x5 x6 x7 x8 : Option D} (hn : h[n]? = some (.lst ps)) (hl : ps.length ≤ 1000) (vc : Named (.tup cs) h) (cl : Cl h) (hp : ∀ p ∈ ps, ∃ a b, p = .tup [a, b] ∧ Named a h ∧ Named b h) :
    kComp (cfg Pg wf (k + 5)) (.var 9) (.nm 9) (.yes (.not (.call "_law_slip_right" (.cons (.var 1) (.cons (.ix (.var 9) (.int 0)) (.cons (.ix (.var 9) (.int 1)) .nil)))))) [x0, some (.tup cs), x2, x3, x4, x5, x6, x7, x8, none] ⟨ps.length, fun h i => (cellAt n h)[i]?, fun h => decide ((cellAt n h).length = ps.length)⟩ h = .ok (.l []) h := by
  have ca : cellAt n h = ps := by unfold cellAt; simp only [hn]
  have cf := comp_fix (C := cfg Pg wf (k + 5)) (ρ := [x0, some (.tup cs), x2, x3, x4, x5, x6, x7, x8, none]) (h := h) (elt := .var 9) (tg := .nm 9) (c := .yes (.not (.call "_law_slip_right" (.cons (.var 1) (.cons (.ix (.var 9) (.int 0)) (.cons (.ix (.var 9) (.int 1)) .nil)))))) (f := fun _ => none) (s := ⟨ps.length, fun h i => (cellAt n h)[i]?, fun h => decide ((cellAt n h).length = ps.length)⟩) ps (fun i _ => by
      show (cellAt n h)[i]? = _
      rw [ca]) rfl (by
      show decide ((cellAt n h).length = ps.length) = true
      rw [ca]; simp) (by omega) (fun d hd => by
      obtain ⟨a, b, rfl, va, vb⟩ := hp d hd
      have sr : callF Pg wf (k + 5) "_law_slip_right" [.d (.tup cs), .d a, .d b] h = .ok (.d (.bl true)) h := slip_right_ok vc.va va.va vb.va cl vc.len va.len vb.len
      rw [kStep_a setTg_nm]
      simp -implicitDefEqProofs only [q_cons, q_nil, q_ite, kIte_a, kTw_t, kTw_f, q_set, kSet_a, kSo_a, q_setIx, kX1_a, kX2_a, kX3_a, kXo_a, q_ret, kRet_a, q_ex, kEx_a, q_raise, kRaise_a, q_ife, kIfe_a, kTe_t, kTe_f, q_and, kAnd_a, kAo_t, kAo_f, q_or, kOr_a, kOo_t, kOo_f, q_not, kNot_a, kNo_a, q_var, kVo_a, q_glob, kGo_a, q_int, q_bl, q_non, q_str, q_bin, kBin_a, kBin2_a, q_cmp, kCmp_a, kCmp2_a, q_ix, kIx_a, kIx2_a, q_neg, kNg_a, q_tup, kTup_b, q_lst, kLst_b, q_call, kCall_a, q_bi, kBi_a, q_isin, kIs_b, kIsO_a, q_consE, q_nilE, kEs_a, kEs2_a, q_chn, kC2_a, kC3_a, kC4_t, kC4_f, q_noC, q_yesC, kTr_a, kTb_a, kSome_a, kSt_t, kSt_f, q_comp, q_seq, kSeq_a, kSo2_a, q_for, kFor_a, q_rng1, kRng_a, q_enum, kEnum_a, q_fstr, kFs_a, q_consF, q_nilF, kF_a, q_fmt, kFm_a, kFmO_a, q_meth, kMe_a, kMe_b, kMe2_a, q_sl, kSl_a, kSl2_a, kSl3_a, q_rev, kRev_a, q_heard, kHd_ok, kHd_exc, q_par, kPa_a, kPa2_a, q_clr, q_noO, q_yesO, kOi_a, q_retN, q_pass, q_brk, q_cnt, R.bind_ok, R.out_ok, R.bind_exc, R.out_exc, sq_nx, sq_rt, sq_exc, sq_bk, sq_ct, t_bl, nam_d, nam_l, namAll_nil, namAll_cons, List.getElem?_cons_zero, List.getElem?_cons_succ, List.set_cons_zero, List.set_cons_succ, setTg_nm, List.length_cons, List.length_nil, Nat.reduceAdd, Nat.reduceLeDiff, Nat.zero_add, if_true, if_false, Bool.not_true, Bool.not_false, call_cfg, glob_cfg, i_t0, i_t1, sr])
  rw [cf]
  congr 2
  clear hn hp cf ca hl
  induction ps with
  | nil => rfl
  | cons a l ih => exact ih
theorem cr_turn {wf k j : Nat} {h : AH} {cs : List D} {i : Int} {x3 x4 x5 x6 x7 x8 x9 : Option D} (J : Jar h j) (cl : Cl h) (G : Good cs) (hn : cs.length ≤ 60) :
    ∃ ρ h', evSs (cfg Pg wf (k + 5)) wf b_cr [some (.ref j), some (.tup cs), some (.int i), x3, x4, x5, x6, x7, x8, none] h = .nx ρ h' ∧ Grown h h' j ∧ ∃ y3 y4 y5 y6 y7 y8, ρ = [some (.ref j), some (.tup cs), some (.int i), y3, y4, y5, y6, y7, y8, none] := by
  have hj := J.lt
  have g0 := Grown.refl cl J
  have vc : Named (.tup cs) h := Named.pl (by unfold plD; exact G.pl) fun ds e => by cases e; omega
  obtain ⟨t, h1, e1, tk, d1⟩ := bent_names_ok (wf := wf) (k := k + 2) J cl G hn
  have g1 := g0.draw hj d1
  obtain ⟨bent, h2, n2, vb, g2⟩ := nam_ok tk g1.1 g1.2.1
  have g2 := g1.trans hj g2
  obtain ⟨X, lx, b1, b2⟩ := names_both (wf := wf) (k := k + 2) vb g2.1
  have sm : callF Pg wf (k + 5) "_law_same" [.d X, .d X] h2 = .ok (.d (.bl true)) h2 := same_ok (wf := wf) (h := h2) 2 (k + 1) lx
  obtain ⟨xs, h3, e3, px, lx3, d3⟩ := some_run_ok (wf := wf) (k := k + 2) g2.2.1 g2.1 hn
  have g3 := g2.draw hj d3
  obtain ⟨ys, h4, e4, py, ly4, d4⟩ := near_run_ok (wf := wf) (k := k + 2) g3.2.1 g3.1 px (by omega)
  have g4 := g3.draw hj d4
  obtain ⟨t5, h5, e5, tk5, d5⟩ := bent_run_ok (wf := wf) (k := k + 2) g4.2.1 g4.1 px (by omega)
  have g5 := g4.draw hj d5
  obtain ⟨t6, h6, e6, tk6, d6⟩ := bent_run_ok (wf := wf) (k := k + 2) g5.2.1 g5.1 py (by omega)
  have g6 := g5.draw hj d6
  obtain ⟨odd, h7, n7, v7, g67⟩ := nam_ok tk5 g6.1 g6.2.1
  have g7 := g6.trans hj g67
  obtain ⟨other, h8, n8, v8, g78⟩ := nam_ok tk6 g7.1 g7.2.1
  have g8 := g7.trans hj g78
  have v7 := v7.grow g78
  have vx : ∀ h, Named (.tup xs) h := fun h => Named.pl (by unfold plD; exact px) fun ds e => by cases e; omega
  have vy : ∀ h, Named (.tup ys) h := fun h => Named.pl (by unfold plD; exact py) fun ds e => by cases e; omega
  have vcs : ∀ h, Named (.tup cs) h := fun h => Named.pl (by unfold plD; exact G.pl) fun ds e => by cases e; omega
  have j2 : j < h2.length := Nat.lt_of_lt_of_le hj g2.len
  have j1 : ∀ {h1}, Grown h h1 j → j < h1.length := fun g => Nat.lt_of_lt_of_le hj g.len
  have g28 : Grown h2 h8 j := (((((Grown.refl g2.1 g2.2.1).draw j2 d3).draw j2 d4).draw j2 d5).draw j2 d6).trans j2 (g67.trans (j1 g6) g78)
  have vb8 := vb.grow g28
  let ps : List D := [.tup [.tup xs, .tup ys], .tup [.tup ys, .tup xs], .tup [.tup xs, .tup xs], .tup [odd, other], .tup [.tup xs, other], .tup [odd, .tup ys], .tup [.tup ys, odd]]
  have psn : ∀ h, Named odd h → Named other h → ∀ p ∈ ps, ∃ a b, p = .tup [a, b] ∧ Named a h ∧ Named b h := fun h o1 o2 p hp => by
    simp only [ps, List.mem_cons, List.not_mem_nil, or_false] at hp
    rcases hp with rfl | rfl | rfl | rfl | rfl | rfl | rfl
    · exact ⟨_, _, rfl, vx _, vy _⟩
    · exact ⟨_, _, rfl, vy _, vx _⟩
    · exact ⟨_, _, rfl, vx _, vx _⟩
    · exact ⟨_, _, rfl, o1, o2⟩
    · exact ⟨_, _, rfl, vx _, o2⟩
    · exact ⟨_, _, rfl, o1, vy _⟩
    · exact ⟨_, _, rfl, vy _, o1⟩
  have bps : belows h8.length ps = true := belows_of fun p hp => by
    obtain ⟨a, b, rfl, va, vb⟩ := psn h8 v7 v8 p hp
    unfold below
    exact belows_of fun d hd => by
      rcases List.mem_cons.mp hd with rfl | hd
      · exact va.va.below
      · rw [List.mem_singleton.mp hd]; exact vb.va.below
  have g9 := g8.push bps
  have g89 := (Grown.refl g8.1 g8.2.1).push bps
  have o1 := v7.grow g89
  have o2 := v8.grow g89
  have vb9 := vb8.grow g89
  have pc := pairs_comp (wf := wf) (k := k) (x0 := some (.ref j)) (cs := cs) (x2 := some (.int i)) (x3 := some bent) (x4 := some (.tup xs)) (x5 := some (.tup ys)) (x6 := some (.ref h8.length)) (x7 := some odd) (x8 := some other) (hat0 (h := h8) (c := .lst ps)) (by simp [ps]) (vcs _) g9.1 (psn _ o1 o2)
  have s1 : callF Pg wf (k + 5) "_law_slip_right" [.d bent, .d odd, .d other] (h8 ++ [.lst ps]) = .ok (.d (.bl true)) (h8 ++ [.lst ps]) := slip_right_ok vb9.va o1.va o2.va g9.1 vb9.len o1.len o2.len
  have s2 : callF Pg wf (k + 5) "_law_slip_right" [.d bent, .d (.tup xs), .d (.tup ys)] (h8 ++ [.lst ps]) = .ok (.d (.bl true)) (h8 ++ [.lst ps]) := slip_right_ok vb9.va (vx _).va (vy _).va g9.1 vb9.len (vx (h8 ++ [.lst ps])).len (vy (h8 ++ [.lst ps])).len
  have sr := src_ref (hat0 (h := h8) (c := .lst ps))
  have nn := c_nnil (ds := []) (h := h8 ++ [.lst ps]) fun d hd => by cases hd
  have nn : cmpR .NotEq (.l []) (.l []) (h8 ++ [.lst ps]) = .ok (.d (.bl false)) (h8 ++ [.lst ps]) := nn
  have l7 : ps.length = 7 := rfl
  simp only [l7] at pc sr
  simp only [ps] at pc s1 s2 sr nn g9
  refine ⟨[some (.ref j), some (.tup cs), some (.int i), some bent, some (.tup xs), some (.tup ys), some (.ref h8.length), some odd, some other, none], _, ?_, g9, _, _, _, _, _, _, rfl⟩
  simp -implicitDefEqProofs only [b_cr, q_cons, q_nil, q_ite, kIte_a, kTw_t, kTw_f, q_set, kSet_a, kSo_a, q_setIx, kX1_a, kX2_a, kX3_a, kXo_a, q_ret, kRet_a, q_ex, kEx_a, q_raise, kRaise_a, q_ife, kIfe_a, kTe_t, kTe_f, q_and, kAnd_a, kAo_t, kAo_f, q_or, kOr_a, kOo_t, kOo_f, q_not, kNot_a, kNo_a, q_var, kVo_a, q_glob, kGo_a, q_int, q_bl, q_non, q_str, q_bin, kBin_a, kBin2_a, q_cmp, kCmp_a, kCmp2_a, q_ix, kIx_a, kIx2_a, q_neg, kNg_a, q_tup, kTup_b, q_lst, kLst_b, q_call, kCall_a, q_bi, kBi_a, q_isin, kIs_b, kIsO_a, q_consE, q_nilE, kEs_a, kEs2_a, q_chn, kC2_a, kC3_a, kC4_t, kC4_f, q_noC, q_yesC, kTr_a, kTb_a, kSome_a, kSt_t, kSt_f, q_comp, q_seq, kSeq_a, kSo2_a, q_for, kFor_a, q_rng1, kRng_a, q_enum, kEnum_a, q_fstr, kFs_a, q_consF, q_nilF, kF_a, q_fmt, kFm_a, kFmO_a, q_meth, kMe_a, kMe_b, kMe2_a, q_sl, kSl_a, kSl2_a, kSl3_a, q_rev, kRev_a, q_heard, kHd_ok, kHd_exc, q_par, kPa_a, kPa2_a, q_clr, q_noO, q_yesO, kOi_a, q_retN, q_pass, q_brk, q_cnt, R.bind_ok, R.out_ok, R.bind_exc, R.out_exc, sq_nx, sq_rt, sq_exc, sq_bk, sq_ct, t_bl, nam_d, nam_l, namAll_nil, namAll_cons, List.getElem?_cons_zero, List.getElem?_cons_succ, List.set_cons_zero, List.set_cons_succ, setTg_nm, List.length_cons, List.length_nil, Nat.reduceAdd, Nat.reduceLeDiff, Nat.zero_add, if_true, if_false, Bool.not_true, Bool.not_false, call_cfg, glob_cfg, e1, n2, q_heard, b1, b2, sm, b_lent, e3, e4, e5, e6, n7, n8, sr, pc, nn, s1, s2]
theorem called_right_ok {wf k j : Nat} {h : AH} {cs : List D} (J : Jar h j) (cl : Cl h) (G : Good cs) (hn : cs.length ≤ 60) :
    ∃ h', callF Pg wf (k + 6) "_law_called_right" [.d (.ref j), .d (.tup cs)] h = .ok (.d (.bl true)) h' ∧ Drawn h h' j := by
  have hj := J.lt
  have lt := lv2_told G.pl G.names (by omega)
  have mg : ∀ h, Cl h → callF Pg wf (k + 5) "made_names" [.d (.tup cs)] h = .ok (.d (.tup cs)) h := fun h c => made_good (k := k + 2) G c hn
  have sm : ∀ h, callF Pg wf (k + 5) "_law_same" [.d (.tup [.str "told", .tup cs]), .d (.tup [.str "told", .tup cs])] h = .ok (.d (.bl true)) h := fun h => same_ok (wf := wf) (h := h) 2 (k + 1) lt
  have L := forL_inv (s := rng1S 4) (step := kBody (cfg Pg wf (k + 5)) wf (.nm 2) b_cr) (n := 4)
    (fun i ρ h1 => Grown h h1 j ∧ ∃ x2 y3 y4 y5 y6 y7 y8, ρ = [some (.ref j), some (.tup cs), x2, y3, y4, y5, y6, y7, y8, none])
    (fun o => ∃ x2 y3 y4 y5 y6 y7 y8 h1, o = .nx [some (.ref j), some (.tup cs), x2, y3, y4, y5, y6, y7, y8, none] h1 ∧ Grown h h1 j)
    (fun i ρ h1 hi hI => by
      obtain ⟨g, x2, y3, y4, y5, y6, y7, y8, rfl⟩ := hI
      refine ⟨.int (0 + (i : Nat)), rfl, .inl ?_⟩
      rw [kBody_a setTg_nm]
      obtain ⟨ρ, h2, e, g2, z3, z4, z5, z6, z7, z8, rfl⟩ := cr_turn (wf := wf) (k := k) (i := 0 + (i : Nat)) (x3 := y3) (x4 := y4) (x5 := y5) (x6 := y6) (x7 := y7) (x8 := y8) (x9 := none) g.2.1 g.1 G hn
      exact ⟨_, _, e, g.trans hj g2, _, _, _, _, _, _, _, rfl⟩)
    (fun ρ h1 hI => by
      obtain ⟨g, x2, y3, y4, y5, y6, y7, y8, rfl⟩ := hI
      exact ⟨rfl, _, _, _, _, _, _, _, h1, rfl, g⟩) 4 0 [some (.ref j), some (.tup cs), none, none, none, none, none, none, none, none] h (by omega) ⟨Grown.refl cl J, _, _, _, _, _, _, _, rfl⟩
  obtain ⟨x2, y3, y4, y5, y6, y7, y8, h1, eL, g⟩ := L
  have L2 : (rng1S 4).len = 4 := rfl
  simp only [b_cr] at eL
  have c1 := g.1
  have g' := g
  obtain ⟨_, J1, a, b, e, rfl⟩ := g
  have J2 : Jar (h.set j (.lst [.int a, .int b])) j := by
    obtain ⟨a2, b2, q1, q2⟩ := J1
    rw [List.getElem?_append_left (by simpa using hj)] at q1
    exact ⟨a2, b2, q1, q2⟩
  have r4 : (-(2 ^ 62) ≤ (4 : Int) ∧ (4 : Int) < 2 ^ 62) = True := by simp
  refine ⟨h.set j (.lst [.int a, .int b]), call_cut (ds := [.ref j, .tup cs]) (h1 := h.set j (.lst [.int a, .int b])) (e := e) fn_law_called_right rfl ?_ (by simp) (cl.set (by simp [belows, below])) (by simp [below]), J2, a, b, rfl⟩
  show evSs (cfg Pg wf (k + 5)) wf b_law_called_right [some (.ref j), some (.tup cs), none, none, none, none, none, none, none, none] h = _
  simp -implicitDefEqProofs only [b_law_called_right, q_cons, q_nil, q_ite, kIte_a, kTw_t, kTw_f, q_set, kSet_a, kSo_a, q_setIx, kX1_a, kX2_a, kX3_a, kXo_a, q_ret, kRet_a, q_ex, kEx_a, q_raise, kRaise_a, q_ife, kIfe_a, kTe_t, kTe_f, q_and, kAnd_a, kAo_t, kAo_f, q_or, kOr_a, kOo_t, kOo_f, q_not, kNot_a, kNo_a, q_var, kVo_a, q_glob, kGo_a, q_int, q_bl, q_non, q_str, q_bin, kBin_a, kBin2_a, q_cmp, kCmp_a, kCmp2_a, q_ix, kIx_a, kIx2_a, q_neg, kNg_a, q_tup, kTup_b, q_lst, kLst_b, q_call, kCall_a, q_bi, kBi_a, q_isin, kIs_b, kIsO_a, q_consE, q_nilE, kEs_a, kEs2_a, q_chn, kC2_a, kC3_a, kC4_t, kC4_f, q_noC, q_yesC, kTr_a, kTb_a, kSome_a, kSt_t, kSt_f, q_comp, q_seq, kSeq_a, kSo2_a, q_for, kFor_a, q_rng1, kRng_a, q_enum, kEnum_a, q_fstr, kFs_a, q_consF, q_nilF, kF_a, q_fmt, kFm_a, kFmO_a, q_meth, kMe_a, kMe_b, kMe2_a, q_sl, kSl_a, kSl2_a, kSl3_a, q_rev, kRev_a, q_heard, kHd_ok, kHd_exc, q_par, kPa_a, kPa2_a, q_clr, q_noO, q_yesO, kOi_a, q_retN, q_pass, q_brk, q_cnt, R.bind_ok, R.out_ok, R.bind_exc, R.out_exc, sq_nx, sq_rt, sq_exc, sq_bk, sq_ct, t_bl, nam_d, nam_l, namAll_nil, namAll_cons, List.getElem?_cons_zero, List.getElem?_cons_succ, List.set_cons_zero, List.set_cons_succ, setTg_nm, List.length_cons, List.length_nil, Nat.reduceAdd, Nat.reduceLeDiff, Nat.zero_add, if_true, if_false, Bool.not_true, Bool.not_false, call_cfg, glob_cfg, q_heard, mg h cl, sm, kRng_a r4, L2, eL, mg _ c1]
end K33

set_option Elab.async false
set_option linter.all false
set_option maxRecDepth 100000
set_option maxHeartbeats 4000000
/-! Pure19: the law. -/
namespace K33
open PySem Mill HeadK
theorem Scr.push {s : D} {zs : List Int} {h e : AH} (c : Scr s zs h) : Scr s zs (h ++ e) := by
  rcases c with rfl | ⟨n, rfl, e1⟩
  · exact .inl rfl
  · exact .inr ⟨n, rfl, by rw [List.getElem?_append_left (List.getElem?_eq_some_iff.mp e1).1]; exact e1⟩
/-- a draw from the last jar -/
theorem Scr.last {s : D} {zs : List Int} {h h1 : AH} {c : Cell} (S : Scr s zs h) (d : Drawn (h ++ [c]) h1 h.length) : Scr s zs h1 := by
  rcases S with rfl | ⟨n, rfl, e1⟩
  · exact .inl rfl
  · have hn := (List.getElem?_eq_some_iff.mp e1).1
    exact .inr ⟨n, rfl, by rw [d.at (by omega), List.getElem?_append_left hn]; exact e1⟩
theorem new_jar {h : AH} {a b : Int} (h0 : 0 ≤ a ∧ 0 ≤ b ∧ b < 2147483647) : Jar (h ++ [.lst [.int a, .int b]]) h.length := ⟨a, b, hat0, h0⟩
theorem law_turn {wf k g : Nat} {s : D} {zs : List Int} {h : AH} {x2 : Option D} (S : Scr s zs h) (cl : Cl h) (hg : g < 100) :
    ∃ y2 h', evSs (cfg Pg wf (k + 6)) wf b_lw [some s, some (.int g), x2] h = .nx [some s, some (.int g), y2] h' ∧ Scr s zs h' ∧ Cl h' := by
  obtain ⟨a, b, e1, ab⟩ := pool_ok (wf := wf) (k := k + 5) S hg cl
  have J := new_jar (h := h) ab
  have cl1 := cl.push (ds := [.int a, .int b]) (by simp [belows, below])
  obtain ⟨r, h1, e2, r0, r1, d1⟩ := take_ok (wf := wf) (k := k + 5) (top := 11) J (by decide) (by decide +kernel)
  obtain ⟨n, rfl⟩ : ∃ n : Nat, r = n := ⟨r.toNat, by omega⟩
  obtain ⟨cs, h2, e3, G, ln, d2⟩ := some_names_ok (wf := wf) (k := k + 2) (n := n) d1.1 (d1.cl cl1) (by omega)
  have d12 := d1.trans d2
  obtain ⟨h3, e4, d3⟩ := called_right_ok (wf := wf) (k := k) d12.1 (d12.cl cl1) G (by omega)
  have d := d12.trans d3
  exact ⟨some (.ref h.length), h3, by simp -implicitDefEqProofs only [b_lw, q_cons, q_nil, q_ite, kIte_a, kTw_t, kTw_f, q_set, kSet_a, kSo_a, q_setIx, kX1_a, kX2_a, kX3_a, kXo_a, q_ret, kRet_a, q_ex, kEx_a, q_raise, kRaise_a, q_ife, kIfe_a, kTe_t, kTe_f, q_and, kAnd_a, kAo_t, kAo_f, q_or, kOr_a, kOo_t, kOo_f, q_not, kNot_a, kNo_a, q_var, kVo_a, q_glob, kGo_a, q_int, q_bl, q_non, q_str, q_bin, kBin_a, kBin2_a, q_cmp, kCmp_a, kCmp2_a, q_ix, kIx_a, kIx2_a, q_neg, kNg_a, q_tup, kTup_b, q_lst, kLst_b, q_call, kCall_a, q_bi, kBi_a, q_isin, kIs_b, kIsO_a, q_consE, q_nilE, kEs_a, kEs2_a, q_chn, kC2_a, kC3_a, kC4_t, kC4_f, q_noC, q_yesC, kTr_a, kTb_a, kSome_a, kSt_t, kSt_f, q_comp, q_seq, kSeq_a, kSo2_a, q_for, kFor_a, q_rng1, kRng_a, q_enum, kEnum_a, q_fstr, kFs_a, q_consF, q_nilF, kF_a, q_fmt, kFm_a, kFmO_a, q_meth, kMe_a, kMe_b, kMe2_a, q_sl, kSl_a, kSl2_a, kSl3_a, q_rev, kRev_a, q_heard, kHd_ok, kHd_exc, q_par, kPa_a, kPa2_a, q_clr, q_noO, q_yesO, kOi_a, q_retN, q_pass, q_brk, q_cnt, R.bind_ok, R.out_ok, R.bind_exc, R.out_exc, sq_nx, sq_rt, sq_exc, sq_bk, sq_ct, t_bl, nam_d, nam_l, namAll_nil, namAll_cons, List.getElem?_cons_zero, List.getElem?_cons_succ, List.set_cons_zero, List.set_cons_succ, setTg_nm, List.length_cons, List.length_nil, Nat.reduceAdd, Nat.reduceLeDiff, Nat.zero_add, if_true, if_false, Bool.not_true, Bool.not_false, call_cfg, glob_cfg, e1, e2, e3, e4], S.last d, d.cl cl1⟩
theorem law_ok {wf k : Nat} {s : D} {zs : List Int} {h : AH} (S : Scr s zs h) (cl : Cl h) : ∃ h', evSs (cfg Pg wf (k + 6)) wf b_law [some s, none, none] h = .rt (.d (.bl true)) h' := by
  have L := forL_inv (s := rng1S 5) (step := kBody (cfg Pg wf (k + 6)) wf (.nm 1) b_lw) (n := 5)
    (fun i ρ h1 => Scr s zs h1 ∧ Cl h1 ∧ ∃ x1 x2, ρ = [some s, x1, x2])
    (fun o => ∃ x1 x2 h1, o = .nx [some s, x1, x2] h1 ∧ Scr s zs h1 ∧ Cl h1)
    (fun i ρ h1 hi hI => by
      obtain ⟨S1, c1, x1, x2, rfl⟩ := hI
      refine ⟨.int (0 + (i : Nat)), rfl, .inl ?_⟩
      rw [kBody_a setTg_nm, Int.zero_add]
      obtain ⟨y2, h2, e, S2, c2⟩ := law_turn (wf := wf) (k := k) (g := i) (x2 := x2) S1 c1 (by omega)
      exact ⟨_, _, e, S2, c2, _, _, rfl⟩)
    (fun ρ h1 hI => by
      obtain ⟨S1, c1, x1, x2, rfl⟩ := hI
      exact ⟨rfl, _, _, _, rfl, S1, c1⟩) 5 0 [some s, none, none] h (by omega) ⟨S, cl, _, _, rfl⟩
  obtain ⟨x1, x2, h0, eL, S0, c0⟩ := L
  have L2 : (rng1S 5).len = 5 := rfl
  have r5 : (-(2 ^ 62) ≤ (5 : Int) ∧ (5 : Int) < 2 ^ 62) = True := by simp
  simp only [b_lw] at eL
  obtain ⟨a, b, e1, ab⟩ := pool_ok (wf := wf) (k := k + 5) (g := 5) S0 (by omega) c0
  have e1 : callF Pg wf (k + 6) "_law_pool" [.d s, .d (.int 5)] h0 = .ok (.l [.int a, .int b]) h0 := e1
  have J := new_jar (h := h0) ab
  have cl1 := c0.push (ds := [.int a, .int b]) (by simp [belows, below])
  obtain ⟨r, h1, e2, r0, r1, d1⟩ := take_ok (wf := wf) (k := k + 5) (top := 3) J (by decide) (by decide +kernel)
  have fin : ∀ h, Cl h → callF Pg wf (k + 6) "_law_slip_right" [.d (.tup [.str "dig", .str "haul", .str "fell"]), .d (.tup [.int 0, .int 4, .int 2]), .d (.tup [.int 1, .int 4, .int 0])] h = .ok (.d (.bl true)) h ∧ callF Pg wf (k + 6) "_law_slip_right" [.d (.tup []), .d (.tup []), .d (.tup [])] h = .ok (.d (.bl true)) h := fun h c =>
    ⟨slip_right_ok (k := k + 1) (.inl (by kernel_rfl)) (.inl (by kernel_rfl)) (.inl (by kernel_rfl)) c (fun ds e => by cases e; simp) (fun ds e => by cases e; simp) (fun ds e => by cases e; simp),
     slip_right_ok (k := k + 1) (.inl (by kernel_rfl)) (.inl (by kernel_rfl)) (.inl (by kernel_rfl)) c (fun ds e => by cases e; simp) (fun ds e => by cases e; simp) (fun ds e => by cases e; simp)⟩
  cases q : r == 0 with
  | true =>
    obtain ⟨cs, h2, e3, G, ln, d2⟩ := some_names_ok (wf := wf) (k := k + 2) (n := 60) d1.1 (d1.cl cl1) (by omega)
    have e3 : callF Pg wf (k + 6) "_law_some_names" [.d (.ref h0.length), .d (.int 60)] h1 = .ok (.d (.tup cs)) h2 := e3
    have d12 := d1.trans d2
    obtain ⟨h3, e4, d3⟩ := called_right_ok (wf := wf) (k := k) d12.1 (d12.cl cl1) G (by omega)
    obtain ⟨f1, f2⟩ := fin h3 ((d12.trans d3).cl cl1)
    exact ⟨h3, by simp -implicitDefEqProofs only [b_law, q_cons, q_nil, q_ite, kIte_a, kTw_t, kTw_f, q_set, kSet_a, kSo_a, q_setIx, kX1_a, kX2_a, kX3_a, kXo_a, q_ret, kRet_a, q_ex, kEx_a, q_raise, kRaise_a, q_ife, kIfe_a, kTe_t, kTe_f, q_and, kAnd_a, kAo_t, kAo_f, q_or, kOr_a, kOo_t, kOo_f, q_not, kNot_a, kNo_a, q_var, kVo_a, q_glob, kGo_a, q_int, q_bl, q_non, q_str, q_bin, kBin_a, kBin2_a, q_cmp, kCmp_a, kCmp2_a, q_ix, kIx_a, kIx2_a, q_neg, kNg_a, q_tup, kTup_b, q_lst, kLst_b, q_call, kCall_a, q_bi, kBi_a, q_isin, kIs_b, kIsO_a, q_consE, q_nilE, kEs_a, kEs2_a, q_chn, kC2_a, kC3_a, kC4_t, kC4_f, q_noC, q_yesC, kTr_a, kTb_a, kSome_a, kSt_t, kSt_f, q_comp, q_seq, kSeq_a, kSo2_a, q_for, kFor_a, q_rng1, kRng_a, q_enum, kEnum_a, q_fstr, kFs_a, q_consF, q_nilF, kF_a, q_fmt, kFm_a, kFmO_a, q_meth, kMe_a, kMe_b, kMe2_a, q_sl, kSl_a, kSl2_a, kSl3_a, q_rev, kRev_a, q_heard, kHd_ok, kHd_exc, q_par, kPa_a, kPa2_a, q_clr, q_noO, q_yesO, kOi_a, q_retN, q_pass, q_brk, q_cnt, R.bind_ok, R.out_ok, R.bind_exc, R.out_exc, sq_nx, sq_rt, sq_exc, sq_bk, sq_ct, t_bl, nam_d, nam_l, namAll_nil, namAll_cons, List.getElem?_cons_zero, List.getElem?_cons_succ, List.set_cons_zero, List.set_cons_succ, setTg_nm, List.length_cons, List.length_nil, Nat.reduceAdd, Nat.reduceLeDiff, Nat.zero_add, if_true, if_false, Bool.not_true, Bool.not_false, call_cfg, glob_cfg, kRng_a r5, L2, eL, e1, e2, c_eqi, q, e3, e4, f1, f2]⟩
  | false =>
    obtain ⟨f1, f2⟩ := fin h1 (d1.cl cl1)
    exact ⟨h1, by simp -implicitDefEqProofs only [b_law, q_cons, q_nil, q_ite, kIte_a, kTw_t, kTw_f, q_set, kSet_a, kSo_a, q_setIx, kX1_a, kX2_a, kX3_a, kXo_a, q_ret, kRet_a, q_ex, kEx_a, q_raise, kRaise_a, q_ife, kIfe_a, kTe_t, kTe_f, q_and, kAnd_a, kAo_t, kAo_f, q_or, kOr_a, kOo_t, kOo_f, q_not, kNot_a, kNo_a, q_var, kVo_a, q_glob, kGo_a, q_int, q_bl, q_non, q_str, q_bin, kBin_a, kBin2_a, q_cmp, kCmp_a, kCmp2_a, q_ix, kIx_a, kIx2_a, q_neg, kNg_a, q_tup, kTup_b, q_lst, kLst_b, q_call, kCall_a, q_bi, kBi_a, q_isin, kIs_b, kIsO_a, q_consE, q_nilE, kEs_a, kEs2_a, q_chn, kC2_a, kC3_a, kC4_t, kC4_f, q_noC, q_yesC, kTr_a, kTb_a, kSome_a, kSt_t, kSt_f, q_comp, q_seq, kSeq_a, kSo2_a, q_for, kFor_a, q_rng1, kRng_a, q_enum, kEnum_a, q_fstr, kFs_a, q_consF, q_nilF, kF_a, q_fmt, kFm_a, kFmO_a, q_meth, kMe_a, kMe_b, kMe2_a, q_sl, kSl_a, kSl2_a, kSl3_a, q_rev, kRev_a, q_heard, kHd_ok, kHd_exc, q_par, kPa_a, kPa2_a, q_clr, q_noO, q_yesO, kOi_a, q_retN, q_pass, q_brk, q_cnt, R.bind_ok, R.out_ok, R.bind_exc, R.out_exc, sq_nx, sq_rt, sq_exc, sq_bk, sq_ct, t_bl, nam_d, nam_l, namAll_nil, namAll_cons, List.getElem?_cons_zero, List.getElem?_cons_succ, List.set_cons_zero, List.set_cons_succ, setTg_nm, List.length_cons, List.length_nil, Nat.reduceAdd, Nat.reduceLeDiff, Nat.zero_add, if_true, if_false, Bool.not_true, Bool.not_false, call_cfg, glob_cfg, kRng_a r5, L2, eL, e1, e2, c_eqi, q, f1, f2]⟩
theorem leave_bl {n : Nat} {b : Bool} {h : AH} : ∃ h1, leave n (.d (.bl b)) h = .ok (.d (.bl b)) h1 := by
  unfold leave
  split
  · simp only [below]
    exact ⟨_, rfl⟩
  · exact ⟨_, rfl⟩
theorem belows_ints {n : Nat} (zs : List Int) : belows n (zs.map D.int) = true := belows_of fun d hd => by
  obtain ⟨i, _, rfl⟩ := List.mem_map.mp hd
  rfl
theorem law_pure : LawPure Pg 1000 41 63 := fun zs _ _ t ht => by
  have fin : ∀ (s : D) (h : AH), Scr s zs h → Cl h → nam t [] = (s, h) → ∃ h1, callF Pg 1000 41 "law" [t] [] = .ok (.d (.bl true)) h1 := fun s h S cl e => by
    obtain ⟨h1, e1⟩ := law_ok (wf := 1000) (k := 34) S cl
    rw [call_at fn_law rfl]
    have na : namAll [t] [] = ([s], h) := by
      rw [namAll_cons, e]; rfl
    rw [na]
    show ∃ h1, finish 0 (evSs (cfg Pg 1000 40) 1000 b_law [some s, none, none] h) = _
    have e1 : evSs (cfg Pg 1000 40) 1000 b_law [some s, none, none] h = .rt (.d (.bl true)) h1 := e1
    rw [e1]
    exact leave_bl
  rcases ht with rfl | rfl
  · exact fin (.ref 0) [.lst (zs.map D.int)] (.inr ⟨0, rfl, rfl⟩) (Cl.push (h := []) rfl (belows_ints zs)) rfl
  · exact fin (.fro (zs.map D.int)) [] (.inl rfl) rfl rfl
end K33

set_option Elab.async false
set_option linter.all false
set_option maxRecDepth 100000
set_option maxHeartbeats 0
namespace HeadK
open PySem PySem.Spec PyProof.Rows L2 Mill
def mLaw : DefM := mOf "law" 80 ["script", "go", "jar"]
theorem law_mem : mLaw ∈ ms := by
  have : mLaw = ms.getLast (by intro z; cases z) := by rfl
  rw [this]; exact List.getLast_mem _
theorem law_fn : ∃ fn, fnOfM fns excs mLaw = some fn ∧ Pg.fn "law" = some fn := by
  have h : (fnOfM fns excs mLaw).isSome = true := by kernel_rfl
  obtain ⟨fn, e⟩ := Option.isSome_iff_exists.mp h
  refine ⟨fn, e, ?_⟩
  have f : (ms.find? fun m => m.d.name == ("law" : Str)) = some mLaw := by rfl
  show (ms.find? fun m => m.d.name == ("law" : Str)).bind (fnOfM fns excs) = some fn
  rw [f]; exact e
theorem pure : LawPure Pg 1000 41 63 := K33.law_pure
end HeadK
open PySem PySem.W PySem.Calls PyProof.Rows
theorem PySem.Challenge.cw_datesheld_k33_names_and_dates_that_slip_holds : PySem.Challenge.rw_datesheld_k33_names_and_dates_that_slip.Holds := by
  w_on; o_law
  refine HandSHeadRun.head_any (r := OpenLaw.row PySem.Challenge.rw_datesheld_k33_names_and_dates_that_slip) (q := view (OpenLaw.row PySem.Challenge.rw_datesheld_k33_names_and_dates_that_slip).prog [80]) (H := HeadK.hk) (ob := HeadK.ob) (M := 14000) (loose := HeadK.loose) (d := HandSHeadRun.topDef (OpenLaw.row PySem.Challenge.rw_datesheld_k33_names_and_dates_that_slip).prog 80) (kwd := []) HeadK.ob_eq
    (by kernel_rfl) (fun s => by kernel_rfl) HeadK.run (by kernel_rfl) (by kernel_rfl) (by kernel_rfl) (by rfl) (by first | assumption | decide +kernel) (by decide +kernel) ⟨rfl, rfl, rfl, rfl, rfl, by decide +kernel⟩ ?hw ?hc
  case hw => w_witness2
  case hc =>
    refine LamX.walk_ofTsE (l := PySem.Challenge.rw_datesheld_k33_names_and_dates_that_slip) (n := 63) (k := 3 * 40 + 11) (x := "script") (CX := fun w => L2N.CX (PySem.Challenge.pw_datesheld_k33_names_and_dates_that_slip) w) rfl (by decide) (by kernel_rfl) ⟨rfl, by decide, by decide⟩ ?F (fun w H s e s' z => ?_)
    · intro w mg fa h Y G hmg0
      obtain ⟨K, KX, c⟩ := Y
      have hmg : mg ("law" : PySem.Str) = some (.ref fa) := by
        have e : (HandSHeadRun.topDef (OpenLaw.row PySem.Challenge.rw_datesheld_k33_names_and_dates_that_slip).prog 80).name = ("law" : PySem.Str) := by kernel_rfl
        rw [← e]
        exact hmg0
      obtain ⟨fn, f1, f2⟩ := HeadK.law_fn
      exact ⟨K, KX, Mill.law_at rfl HeadK.textOk c KX G HeadK.law_mem rfl (by decide +kernel) f1 f2 (by kernel_rfl) hmg HeadK.pure⟩
    · obtain ⟨_, _, _, _, _, _, _, _, _, _, _, _, z⟩ := z
      exact z
